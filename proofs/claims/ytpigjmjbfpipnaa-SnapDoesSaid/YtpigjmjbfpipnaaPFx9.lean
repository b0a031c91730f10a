-- By a program of this session.
import Derived.Test.YtpigjmjbfpipnaaPFx0
import Derived.Test.YtpigjmjbfpipnaaPFx4
import Derived.Test.YtpigjmjbfpipnaaPFx3
namespace Go.Proofs.Ytpigjmjbfpipnaa.PF
open Go.RowKit YtpigjmjbfpipnaaW.PrintWords YtpigjmjbfpipnaaW.PrintLast YtpigjmjbfpipnaaW.PrintMore Sh Ytpigjmjbfpipnaa.Op
attribute [local go_sem] max2_int min2_int max_two min_two max_three min_three max_four min_four
set_option linter.unusedVariables false
set_option maxHeartbeats 80000000
set_option maxRecDepth 100000
set_option linter.unusedSimpArgs false
def disk_place.f (k : Nat) (l0_0 : List (S71)) (a0_1 : Bool) (a0_2 : Int) (a1 : ByteArray) : Option (Int × Bool) := (api_File_string.f k l0_0 a1).bind fun bt154 => (some (bt154.1, bt154.2))
theorem disk_place.mono : ∀ a0 a1 a2 a3 k, LeO (disk_place.f k a0 a1 a2 a3) (disk_place.f (k + 1) a0 a1 a2 a3) := by
 intro a0 a1 a2 a3 k
 unfold disk_place.f
 repeat' with_reducible first | apply api_File_string.mono | apply LeO.refl | apply LeO.none | apply LeO.ite | refine LeO.bind ?_ (fun _ => ?_)
theorem disk_place.calls (k : Nat) (A0_0 : Option Addr) (c0_0 : Nat) (l0_0 : List (S71)) (a0_1 : Bool) (a0_2 : Int) (a1 : ByteArray) (r1 : Int) (r2 : Bool) (w : World) (hr0_0 : Kd.C k71 w A0_0 l0_0.length l0_0) (hc0_0 : l0_0.length ≤ c0_0) (h : disk_place.f k l0_0 a0_1 a0_2 a1 = some (r1, r2)) :
  Calls Try.prog 50 #[.agg #[.slice A0_0 l0_0.length c0_0, .bool a0_1, .int .i64 a0_2], .string a1] w fun e w' => e = .returned (.tuple #[.int .i64 r1, .bool r2]) ∧ Below w.heap.size w w' := by
 have hu24 := Try.underlying24
 have HR0_0 := a_ hr0_0
 have HC0_0 := a_ hc0_0
 clear hr0_0 hc0_0
 have HB := a_ (Below.refl w.heap.size w)
 have H := h
 unfold disk_place.f at H
 clear h
 obtain ⟨⟨t154, t155⟩, A3, H⟩ := ob_ H
 try dsimp only at H
 obtain ⟨rfl, rfl⟩ := so2_ H
 go_enter Try.func50, Try.ntmps50
 go_wp2_with (first | ((with_reducible refine gd_ 2 ?_); refine bz_ 2 #[.slice A0_0 l0_0.length c0_0, .bool a0_1, .int .i64 a0_2] 24 ?_; intro gb153 hg w4 BK153 hb; have GE153 := a_ (bs_0 hg HB); replace HB := hB_ (bl_ HB) hb; clear hb hg; obtain ⟨hcz5_0, hcz5_1, hcz5_2, hfz5_0, hfz5_1, hfz5_2⟩ := c3_ BK153) | ((with_reducible refine gk_ 79 ?_); refine gl_ (some 9) Try.func79 #[.slice A0_0 l0_0.length c0_0, .string a1, (.func (.func 80) #[] #[])] ?_; (with_reducible refine (api_File_string.calls _ _ _ _ _ _ _ _ ?side1 ?side2 A3.out).mono ?_); (case side1 => exact cl_ (Kd.C_below HR0_0.out HB.out)); (case side2 => exact HC0_0.out); rintro e w6 ⟨rfl, hb⟩; refine ⟨_, rfl, ?_⟩; replace BK153 := bB_ BK153 hb; replace HB := hB_ (bl_1 HB GE153) hb; (try clear hb)))
 go_ret2
 exact ⟨fz_, bl_1 HB GE153⟩

def disk_Read.f (k : Nat) (l0_0 : List (S71)) (a0_1 : Bool) (a0_2 : Int) (a1 : ByteArray) : Option (ByteArray × Int) := (disk_asked.f k l0_0 a0_1 a0_2).bind fun t157 => (if t157 = 0 then ((disk_place.f k l0_0 a0_1 a0_2 a1).bind fun bt158 => (if bt158.2 = true then (if 0 ≤ bt158.1 then (if bt158.1 < (l0_0.length : Int) then (some ((rd_T71 l0_0 bt158.1).f1, 0)) else (none)) else (none)) else (some ((⟨#[]⟩ : ByteArray), 6)))) else (some ((⟨#[]⟩ : ByteArray), t157)))
theorem disk_Read.mono : ∀ a0 a1 a2 a3 k, LeO (disk_Read.f k a0 a1 a2 a3) (disk_Read.f (k + 1) a0 a1 a2 a3) := by
 intro a0 a1 a2 a3 k
 unfold disk_Read.f
 repeat' with_reducible first | apply disk_asked.mono | apply disk_place.mono | apply LeO.refl | apply LeO.none | apply LeO.ite | refine LeO.bind ?_ (fun _ => ?_)
theorem disk_Read.calls (k : Nat) (A0_0 : Option Addr) (c0_0 : Nat) (l0_0 : List (S71)) (a0_1 : Bool) (a0_2 : Int) (a1 : ByteArray) (r1 : ByteArray) (r2 : Int) (w : World) (hr0_0 : Kd.C k71 w A0_0 l0_0.length l0_0) (hc0_0 : l0_0.length ≤ c0_0) (h : disk_Read.f k l0_0 a0_1 a0_2 a1 = some (r1, r2)) :
  Calls Try.prog 24 #[.agg #[.slice A0_0 l0_0.length c0_0, .bool a0_1, .int .i64 a0_2], .string a1] w fun e w' => e = .returned (.tuple #[.string r1, .int .i64 r2]) ∧ Below w.heap.size w w' := by
 have hu24 := Try.underlying24
 have HR0_0 := a_ hr0_0
 have HC0_0 := a_ hc0_0
 clear hr0_0 hc0_0
 have HB := a_ (Below.refl w.heap.size w)
 have H := h
 unfold disk_Read.f at H
 clear h
 obtain ⟨t157, A3, H⟩ := ob_ H
 try dsimp only at H
 by_cases c4 : t157 = 0
 rotate_left
 ·rw [if_neg c4] at H
  obtain ⟨c4b0, c4b1⟩ := bn_ c4
  obtain ⟨rfl, rfl⟩ := so2_ H
  go_enter Try.func24, Try.ntmps24
  go_wp2_with (first | ((with_reducible refine gd_ 2 ?_); refine bz_ 2 #[.slice A0_0 l0_0.length c0_0, .bool a0_1, .int .i64 a0_2] 24 ?_; intro gb156 hg w20 BK156 hb; have GE156 := a_ (bs_0 hg HB); replace HB := hB_ (bl_ HB) hb; clear hb hg; obtain ⟨hcz21_0, hcz21_1, hcz21_2, hfz21_0, hfz21_1, hfz21_2⟩ := c3_ BK156) | ((with_reducible refine gk_ 49 ?_); refine gl_ (some 10) Try.func49 #[.agg #[.slice A0_0 l0_0.length c0_0, .bool a0_1, .int .i64 a0_2]] ?_; (with_reducible refine (disk_asked.calls _ _ _ _ _ _ _ _ ?side1 ?side2 A3.out).mono ?_); (case side1 => exact cl_ (Kd.C_below HR0_0.out HB.out)); (case side2 => exact HC0_0.out); rintro e w22 ⟨rfl, hb⟩; refine ⟨_, rfl, ?_⟩; replace BK156 := bB_ BK156 hb; replace HB := hB_ (bl_1 HB GE156) hb; (try clear hb)))
  go_ret2
  exact ⟨fz_, bl_1 HB GE156⟩


 rw [if_pos c4] at H
 obtain ⟨c4b0, c4b1⟩ := be_ c4
 clear c4
 obtain ⟨⟨t158, t159⟩, A5, H⟩ := ob_ H
 try dsimp only at H
 by_cases c6 : t159 = true
 rotate_left
 ·replace c6 := Bool.eq_false_iff.mpr c6
  subst c6
  have H1 : (some ((⟨#[]⟩ : ByteArray), 6)) = some (r1, r2) := by rw [if_neg (show ¬ (false = true) by decide)] at H; exact H
  clear H
  have H := H1
  clear H1
  obtain ⟨rfl, rfl⟩ := so2_ H
  go_enter Try.func24, Try.ntmps24
  go_wp2_with (first | ((with_reducible refine gd_ 2 ?_); refine bz_ 2 #[.slice A0_0 l0_0.length c0_0, .bool a0_1, .int .i64 a0_2] 24 ?_; intro gb156 hg w15 BK156 hb; have GE156 := a_ (bs_0 hg HB); replace HB := hB_ (bl_ HB) hb; clear hb hg; obtain ⟨hcz16_0, hcz16_1, hcz16_2, hfz16_0, hfz16_1, hfz16_2⟩ := c3_ BK156) | ((with_reducible refine gk_ 49 ?_); refine gl_ (some 10) Try.func49 #[.agg #[.slice A0_0 l0_0.length c0_0, .bool a0_1, .int .i64 a0_2]] ?_; (with_reducible refine (disk_asked.calls _ _ _ _ _ _ _ _ ?side1 ?side2 A3.out).mono ?_); (case side1 => exact cl_ (Kd.C_below HR0_0.out HB.out)); (case side2 => exact HC0_0.out); rintro e w17 ⟨rfl, hb⟩; refine ⟨_, rfl, ?_⟩; replace BK156 := bB_ BK156 hb; replace HB := hB_ (bl_1 HB GE156) hb; (try clear hb); obtain ⟨hcz18_0, hcz18_1, hcz18_2, hfz18_0, hfz18_1, hfz18_2⟩ := c3_ BK156) | ((with_reducible refine gk_ 50 ?_); refine gl_ (some 17) Try.func50 #[.agg #[.slice A0_0 l0_0.length c0_0, .bool a0_1, .int .i64 a0_2], .string a1] ?_; (with_reducible refine (disk_place.calls _ _ _ _ _ _ _ _ _ _ ?side1 ?side2 A5.out).mono ?_); (case side1 => exact cl_ (Kd.C_below HR0_0.out HB.out)); (case side2 => exact HC0_0.out); rintro e w19 ⟨rfl, hb⟩; refine ⟨_, rfl, ?_⟩; replace BK156 := bB_ BK156 hb; replace HB := hB_ (bl_1 HB GE156) hb; (try clear hb)))
  go_ret2
  exact ⟨fz_, bl_1 HB GE156⟩
 subst c6
 have H1 : (if 0 ≤ t158 then (if t158 < (l0_0.length : Int) then (some ((rd_T71 l0_0 t158).f1, 0)) else (none)) else (none)) = some (r1, r2) := by rw [if_pos rfl] at H; exact H
 clear H
 have H := H1
 clear H1
 replace H := ip_ H
 obtain ⟨-, c7b0, H⟩ := H
 replace H := ip_ H
 obtain ⟨-, c8b0, H⟩ := H
 obtain ⟨rfl, rfl⟩ := so2_ H
 go_enter Try.func24, Try.ntmps24
 go_wp2_with (first | ((with_reducible refine gd_ 2 ?_); refine bz_ 2 #[.slice A0_0 l0_0.length c0_0, .bool a0_1, .int .i64 a0_2] 24 ?_; intro gb156 hg w9 BK156 hb; have GE156 := a_ (bs_0 hg HB); replace HB := hB_ (bl_ HB) hb; clear hb hg; obtain ⟨hcz10_0, hcz10_1, hcz10_2, hfz10_0, hfz10_1, hfz10_2⟩ := c3_ BK156) | ((with_reducible refine gk_ 49 ?_); refine gl_ (some 10) Try.func49 #[.agg #[.slice A0_0 l0_0.length c0_0, .bool a0_1, .int .i64 a0_2]] ?_; (with_reducible refine (disk_asked.calls _ _ _ _ _ _ _ _ ?side1 ?side2 A3.out).mono ?_); (case side1 => exact cl_ (Kd.C_below HR0_0.out HB.out)); (case side2 => exact HC0_0.out); rintro e w11 ⟨rfl, hb⟩; refine ⟨_, rfl, ?_⟩; replace BK156 := bB_ BK156 hb; replace HB := hB_ (bl_1 HB GE156) hb; (try clear hb); obtain ⟨hcz12_0, hcz12_1, hcz12_2, hfz12_0, hfz12_1, hfz12_2⟩ := c3_ BK156) | ((with_reducible refine gk_ 50 ?_); refine gl_ (some 17) Try.func50 #[.agg #[.slice A0_0 l0_0.length c0_0, .bool a0_1, .int .i64 a0_2], .string a1] ?_; (with_reducible refine (disk_place.calls _ _ _ _ _ _ _ _ _ _ ?side1 ?side2 A5.out).mono ?_); (case side1 => exact cl_ (Kd.C_below HR0_0.out HB.out)); (case side2 => exact HC0_0.out); rintro e w13 ⟨rfl, hb⟩; refine ⟨_, rfl, ?_⟩; replace BK156 := bB_ BK156 hb; replace HB := hB_ (bl_1 HB GE156) hb; (try clear hb); obtain ⟨hcz14_0, hcz14_1, hcz14_2, hfz14_0, hfz14_1, hfz14_2⟩ := c3_ BK156; have p160 : 0 ≤ (t158 : Int) := od_; have q160 : t158 < (l0_0.length : Int) := od_; obtain ⟨ad160, e160, hx160_0, hx160_1, hx160_2⟩ := at_T71 HR0_0.out t158 p160 q160; cases e160; replace hx160_0 := (HB.out.cell (World.block_lt_of_cell? w _ hx160_0)).trans hx160_0; replace hx160_1 := (HB.out.cell (World.block_lt_of_cell? w _ hx160_1)).trans hx160_1; replace hx160_2 := (HB.out.cell (World.block_lt_of_cell? w _ hx160_2)).trans hx160_2; replace p160 := eq_true p160; replace q160 := eq_true q160))
 go_ret2
 exact ⟨fz_, bl_1 HB GE156⟩
def pack_value.l0 : Nat → ByteArray → Int → Int → Int → Option (Int)
 | 0, _, _, _, _ => none
 | k + 1, x0, x3, x6, x7 => if x7 < x6 then (if 0 ≤ x7 then (if x7 < (x0.size : Int) then (pack_value.l0 k x0 (Go.bits .or .u64 (IntKind.u64.wrap (x3 * 256)) (IntKind.u64.wrap (bt x0 x7))) x6 (wrap64 (x7 + 1))) else (none)) else (none)) else (some x3)
def pack_value.f (k : Nat) (a0 : ByteArray) : Option (Int) := pack_value.l0 k a0 0 (a0.size : Int) 0
theorem pack_value.mono_l : ∀ k, (∀ y0 y1 y2 y3, LeO (pack_value.l0 k y0 y1 y2 y3) (pack_value.l0 (k + 1) y0 y1 y2 y3))
 | 0 => fun _ _ _ _ r h => by simp [pack_value.l0] at h
 | k + 1 => by
  have ih0 := pack_value.mono_l k
  ·intro y0 y1 y2 y3
   unfold pack_value.l0
   repeat' with_reducible first | apply ih0 | apply LeO.refl | apply LeO.none | apply LeO.ite | refine LeO.bind ?_ (fun _ => ?_)
theorem pack_value.mono : ∀ a0 k, LeO (pack_value.f k a0) (pack_value.f (k + 1) a0) := by
 intro a0 k
 have ih0 := pack_value.mono_l k
 unfold pack_value.f
 repeat' with_reducible first | apply ih0 | apply LeO.refl | apply LeO.none | apply LeO.ite | refine LeO.bind ?_ (fun _ => ?_)
theorem pack_value.calls (k : Nat) (a0 : ByteArray) (r : Int) (w : World) (h : pack_value.f k a0 = some r) :
  Calls Try.prog 61 #[.string a0] w fun e w' => e = .returned (.int .u64 r) ∧ Drawn0 w w' := by
 have H := h
 unfold pack_value.f at H
 clear h
 have H' := a_ H
 clear H
 go_enter Try.func61, Try.ntmps61
 go_wp2
 go_loopg [3, 7] k (fun kq v3 v7 w' => ∃ (x3_1 : Int) (x7_1 : Int), v3 = .int .u64 x3_1 ∧ v7 = .int .i64 x7_1 ∧ Aside0 (pack_value.l0 kq a0 x3_1 (a0.size : Int) x7_1 = some r) ∧ Aside0 (kq ≤ k) ∧ Drawn0 w w')
 case atStart => exact ⟨(0), (0), fz_, fz_, H', ⟨Nat.le_refl _⟩, dr_⟩
 case round =>
  clear H'
  obtain ⟨x3_1, x7_1, rfl, rfl, HA, HK1, ⟨m1, rfl⟩⟩ := hrel
  cases gk with
  | zero => exact absurd HA.out (by simp [pack_value.l0])
  | succ k1 =>
   have H := HA.out
   clear HA
   simp only [pack_value.l0] at H
   by_cases c2 : x7_1 < (a0.size : Int)
   rotate_left
   ·rw [if_neg c2] at H
    have c2b0 : decide (x7_1 < (a0.size : Int)) = false := decide_eq_false c2
    clear c2
    obtain rfl := Option.some.inj H
    go_wp2
    go_ret
    exact ⟨fz_, dr_⟩


   rw [if_pos c2] at H
   have c2b0 : decide (x7_1 < (a0.size : Int)) = true := decide_eq_true c2
   clear c2
   replace H := ip_ H
   obtain ⟨-, c3b0, H⟩ := H
   replace H := ip_ H
   obtain ⟨-, c4b0, H⟩ := H
   have H' := a_ H
   clear H
   have p5 : 0 ≤ (x7_1 : Int) := od_
   have q5 : x7_1 < (a0.size : Int) := od_
   have hx5 := bt_at a0 x7_1
   replace p5 := eq_true p5
   replace q5 := eq_true q5
   go_wp2
   go_roundg k1
   case measure => have := HK1.out; omega
   case rel => exact ⟨(Go.bits .or .u64 (IntKind.u64.wrap (x3_1 * 256)) (IntKind.u64.wrap (bt a0 x7_1))), (wrap64 (x7_1 + 1)), fz_, fz_, H', ⟨by have := HK1.out; omega⟩, dr_⟩
def pack_TakeNumber.j0 : Nat → ByteArray → Int → Bool → Option (Int × ByteArray × Int)
 | 0, _, _, _ => none
 | k + 1, x0, x5, x13 => if x13 = true then (some (0, (⟨#[]⟩ : ByteArray), 4)) else (if x5 > (x0.size : Int) then (some (0, (⟨#[]⟩ : ByteArray), 3)) else (if 0 ≤ x5 then (if x5 ≤ (x0.size : Int) then ((pack_value.f k (x0.extract 0 (x5 : Int).toNat)).bind fun t161 => (some (t161, x0.extract (x5 : Int).toNat x0.size, 0))) else (none)) else (none)))
def pack_TakeNumber.f (k : Nat) (a0 : ByteArray) : Option (Int × ByteArray × Int) := if a0.toList = ([] : List UInt8) then (some (0, (⟨#[]⟩ : ByteArray), 3)) else (if 0 < (a0.size : Int) then (if 1 ≤ (a0.size : Int) then (if (wrap64 (bt a0 0)) > 8 then (pack_TakeNumber.j0 k (a0.extract 1 a0.size) (wrap64 (bt a0 0)) true) else (if (wrap64 (bt a0 0)) > 0 then (if (a0.extract 1 a0.size).toList = ([] : List UInt8) then (pack_TakeNumber.j0 k (a0.extract 1 a0.size) (wrap64 (bt a0 0)) false) else (if 0 < ((a0.extract 1 a0.size).size : Int) then (pack_TakeNumber.j0 k (a0.extract 1 a0.size) (wrap64 (bt a0 0)) ((bt (a0.extract 1 a0.size) 0) == 0)) else (none))) else (pack_TakeNumber.j0 k (a0.extract 1 a0.size) (wrap64 (bt a0 0)) false))) else (none)) else (none))
theorem pack_TakeNumber.mono_l : ∀ k, (∀ y0 y1 y2, LeO (pack_TakeNumber.j0 k y0 y1 y2) (pack_TakeNumber.j0 (k + 1) y0 y1 y2))
 | 0 => fun _ _ _ r h => by simp [pack_TakeNumber.j0] at h
 | k + 1 => by
  have ih0 := pack_TakeNumber.mono_l k
  ·intro y0 y1 y2
   unfold pack_TakeNumber.j0
   repeat' with_reducible first | apply ih0 | apply pack_value.mono | apply LeO.refl | apply LeO.none | apply LeO.ite | refine LeO.bind ?_ (fun _ => ?_)
theorem pack_TakeNumber.mono : ∀ a0 k, LeO (pack_TakeNumber.f k a0) (pack_TakeNumber.f (k + 1) a0) := by
 intro a0 k
 have ih0 := pack_TakeNumber.mono_l k
 unfold pack_TakeNumber.f
 repeat' with_reducible first | apply ih0 | apply pack_value.mono | apply LeO.refl | apply LeO.none | apply LeO.ite | refine LeO.bind ?_ (fun _ => ?_)
theorem pack_TakeNumber.calls (k : Nat) (a0 : ByteArray) (r1 : Int) (r2 : ByteArray) (r3 : Int) (w : World) (h : pack_TakeNumber.f k a0 = some (r1, r2, r3)) :
  Calls Try.prog 62 #[.string a0] w fun e w' => e = .returned (.tuple #[.int .u64 r1, .string r2, .int .i64 r3]) ∧ Drawn0 w w' := by
 have H := h
 unfold pack_TakeNumber.f at H
 clear h
 by_cases c2 : a0.toList = ([] : List UInt8)
 ·rw [if_pos c2] at H
  obtain ⟨c2b0, c2b1⟩ := be_ c2
  clear c2
  obtain ⟨rfl, rfl, rfl⟩ := so3_ H
  go_enter Try.func62, Try.ntmps62
  go_wp2
  repeat (go_quiet (fail); try go_wp2)
  go_ret3
  exact ⟨fz_, dr_⟩
 rw [if_neg c2] at H
 obtain ⟨c2b0, c2b1⟩ := bn_ c2
 by_cases c3 : 0 < (a0.size : Int)
 rotate_left
 ·rw [if_neg c3] at H
  exact absurd H (by simp)

 rw [if_pos c3] at H
 have c3b0 : decide (0 < (a0.size : Int)) = true := decide_eq_true c3
 have c3b1 : decide (0 < a0.size) = true := decide_eq_true (by omega)
 clear c3
 replace H := iq_ H
 obtain ⟨c5, H⟩ := H
 have c5b0 := eq_true c5
 have c5b1 : decide (1 ≤ (a0.size : Int)) = true := decide_eq_true c5
 clear c5
 have HC6 := a_ H
 clear H
 have p4 : 0 ≤ (0 : Int) := (by omega)
 have q4 : 0 < a0.size := (by have : (0 : Int) < (a0.size : Int) := od_; omega)
 have hx4 : ∀ h : 0 < a0.size, ((a0[0]'h).toNat : Int) = bt a0 0 := bt_at a0 0
 clear p4
 have qi4 : (0 < (a0.size : Int)) = True := eq_true od_
 replace q4 := eq_true q4
 go_enter Try.func62, Try.ntmps62
 go_upto_region 5 with (fail)
 repeat (go_quiet (fail); go_upto_region 5 with (fail))
 go_cut [13] (fun v13 wc => ∃ (kq : Nat) (x13_5 : Bool), v13 = .bool x13_5 ∧ Aside0 (pack_TakeNumber.j0 kq (a0.extract 1 a0.size) (wrap64 (bt a0 0)) x13_5 = some (r1, r2, r3)) ∧ Aside0 (kq ≤ k) ∧ Drawn0 w wc)
 case first =>
  have H := HC6.out
  clear HC6
  by_cases c7 : (wrap64 (bt a0 0)) > 8
  ·rw [if_pos c7] at H
   have c7b0 : decide (8 < (wrap64 (bt a0 0))) = true := decide_eq_true c7
   clear c7
   (first | rw [c7b0] | (simp only [i64_w, i32_w]; rw [c7b0]) | skip)
   have H' := a_ H
   clear H
   go_wp2
   repeat (go_quiet (fail); try go_wp2)
   go_meet
   case rel => exact ⟨_, (true), fz_, H', ⟨by first | omega | exact Nat.le_refl _⟩, dr_⟩
  rw [if_neg c7] at H
  have c7b0 : decide (8 < (wrap64 (bt a0 0))) = false := decide_eq_false c7
  clear c7
  (first | rw [c7b0] | (simp only [i64_w, i32_w]; rw [c7b0]) | skip)
  by_cases c8 : (wrap64 (bt a0 0)) > 0
  rotate_left
  ·rw [if_neg c8] at H
   have c8b0 : decide (0 < (wrap64 (bt a0 0))) = false := decide_eq_false c8
   clear c8
   have H' := a_ H
   clear H
   go_wp2
   repeat (go_quiet (fail); try go_wp2)
   go_meet
   case rel => exact ⟨_, (false), fz_, H', ⟨by first | omega | exact Nat.le_refl _⟩, dr_⟩
  rw [if_pos c8] at H
  have c8b0 : decide (0 < (wrap64 (bt a0 0))) = true := decide_eq_true c8
  clear c8
  by_cases c9 : (a0.extract 1 a0.size).toList = ([] : List UInt8)
  ·rw [if_pos c9] at H
   obtain ⟨c9b0, c9b1⟩ := be_ c9
   clear c9
   have H' := a_ H
   clear H
   go_wp2
   repeat (go_quiet (fail); try go_wp2)
   go_meet
   case rel => exact ⟨_, (false), fz_, H', ⟨by first | omega | exact Nat.le_refl _⟩, dr_⟩
  rw [if_neg c9] at H
  obtain ⟨c9b0, c9b1⟩ := bn_ c9
  replace H := iq_ H
  obtain ⟨c10, H⟩ := H
  have c10b0 : decide (0 < ((a0.extract 1 a0.size).size : Int)) = true := decide_eq_true c10
  have c10b1 : decide (0 < (a0.extract 1 a0.size).size) = true := decide_eq_true (by omega)
  clear c10
  have H' := a_ H
  clear H
  have p11 : 0 ≤ (0 : Int) := (by omega)
  have q11 : 0 < (a0.extract 1 a0.size).size := (by have : (0 : Int) < ((a0.extract 1 a0.size).size : Int) := od_; omega)
  have hx11 : ∀ h : 0 < (a0.extract 1 a0.size).size, (((a0.extract 1 a0.size)[0]'h).toNat : Int) = bt (a0.extract 1 a0.size) 0 := bt_at (a0.extract 1 a0.size) 0
  clear p11
  have qi11 : (0 < ((a0.extract 1 a0.size).size : Int)) = True := eq_true od_
  replace q11 := eq_true q11
  (try (have c10b0x := c10b0; simp only [ByteArray.size_extract, ByteArray.size_append, Nat.min_self, Nat.sub_zero] at c10b0x))
  (try (have c10b1x := c10b1; simp only [ByteArray.size_extract, ByteArray.size_append, Nat.min_self, Nat.sub_zero] at c10b1x))
  (try (have q11x := q11; simp only [ByteArray.size_extract, ByteArray.size_append, Nat.min_self, Nat.sub_zero] at q11x))
  (try (have qi11x := qi11; simp only [ByteArray.size_extract, ByteArray.size_append, Nat.min_self, Nat.sub_zero] at qi11x))
  go_wp2
  repeat (go_quiet (fail); try go_wp2)
  go_meet
  case rel => exact ⟨_, (((bt (a0.extract 1 a0.size) 0) == 0)), fz_, H', ⟨by first | omega | exact Nat.le_refl _⟩, dr_⟩
 case rest =>
  clear HC6
  try clear c2
  try clear c2b0
  try clear c2b1
  try clear c3
  try clear c3b0
  try clear c3b1
  try clear p4
  try clear q4
  try clear hx4
  try clear qi4
  try clear c5
  try clear c5b0
  try clear c5b1
  try clear p4
  try clear q4
  obtain ⟨kq, x13_5, rfl, HA, HJ5, ⟨mc5, rfl⟩⟩ := hcut
  cases kq with
  | zero => exact absurd HA.out (by simp [pack_TakeNumber.j0])
  | succ kj5 =>
   have H := HA.out
   clear HA
   simp only [pack_TakeNumber.j0] at H
   by_cases c12 : x13_5 = true
   ·subst c12
    have H1 : (some (0, (⟨#[]⟩ : ByteArray), 4)) = some (r1, r2, r3) := by rw [if_pos rfl] at H; exact H
    clear H
    have H := H1
    clear H1
    obtain ⟨rfl, rfl, rfl⟩ := so3_ H
    go_wp2
    repeat (go_quiet (fail); try go_wp2)
    go_ret3
    exact ⟨fz_, dr_⟩
   replace c12 := Bool.eq_false_iff.mpr c12
   subst c12
   have H1 : (if (wrap64 (bt a0 0)) > ((a0.extract 1 a0.size).size : Int) then (some (0, (⟨#[]⟩ : ByteArray), 3)) else (if 0 ≤ (wrap64 (bt a0 0)) then (if (wrap64 (bt a0 0)) ≤ ((a0.extract 1 a0.size).size : Int) then ((pack_value.f kj5 ((a0.extract 1 a0.size).extract 0 ((wrap64 (bt a0 0)) : Int).toNat)).bind fun t161 => (some (t161, (a0.extract 1 a0.size).extract ((wrap64 (bt a0 0)) : Int).toNat (a0.extract 1 a0.size).size, 0))) else (none)) else (none))) = some (r1, r2, r3) := by rw [if_neg (show ¬ (false = true) by decide)] at H; exact H
   clear H
   have H := H1
   clear H1
   by_cases c13 : (wrap64 (bt a0 0)) > ((a0.extract 1 a0.size).size : Int)
   ·rw [if_pos c13] at H
    have c13b0 : decide (((a0.extract 1 a0.size).size : Int) < (wrap64 (bt a0 0))) = true := decide_eq_true c13
    clear c13
    obtain ⟨rfl, rfl, rfl⟩ := so3_ H
    (try (have c13b0x := c13b0; simp only [ByteArray.size_extract, ByteArray.size_append, Nat.min_self, Nat.sub_zero] at c13b0x))
    go_wp2
    repeat (go_quiet (fail); try go_wp2)
    go_ret3
    exact ⟨fz_, dr_⟩
   rw [if_neg c13] at H
   have c13b0 : decide (((a0.extract 1 a0.size).size : Int) < (wrap64 (bt a0 0))) = false := decide_eq_false c13
   clear c13
   obtain ⟨ji14, hji14⟩ : ∃ j_ : Int, (wrap64 (bt a0 0)) = j_ := ⟨_, rfl⟩
   replace H : (if 0 ≤ (ji14) then (if (ji14) ≤ ((a0.extract 1 a0.size).size : Int) then ((pack_value.f kj5 ((a0.extract 1 a0.size).extract 0 ((ji14) : Int).toNat)).bind fun t161 => (some (t161, (a0.extract 1 a0.size).extract ((ji14) : Int).toNat (a0.extract 1 a0.size).size, 0))) else (none)) else (none)) = some (r1, r2, r3) := by first | (rw [hji14] at H; exact H) | (simp only [hji14] at H ⊢; exact H)
   (try rw [hji14] at c13b0)
   have hji14w : (IntKind.i64.wrap (bt a0 0)) = ji14 := (i64_w _).trans hji14
   replace H := iq_ H
   obtain ⟨c15, H⟩ := H
   have c15b0 := eq_true c15
   have c15b1 : decide (0 ≤ (ji14)) = true := decide_eq_true c15
   clear c15
   replace H := iq_ H
   obtain ⟨c16, H⟩ := H
   have c16b0 := eq_true c16
   have c16b1 : decide ((ji14) ≤ ((a0.extract 1 a0.size).size : Int)) = true := decide_eq_true c16
   clear c16
   obtain ⟨t161, A17, H⟩ := ob_ H
   try dsimp only at H
   have c18b0 := eq_true (od_ : 0 ≤ (ji14))
   have c19b0 := eq_true (od_ : (ji14) ≤ ((a0.extract 1 a0.size).size : Int))
   obtain ⟨rfl, rfl, rfl⟩ := so3_ H
   (try (have c13b0x := c13b0; simp only [ByteArray.size_extract, ByteArray.size_append, Nat.min_self, Nat.sub_zero] at c13b0x))
   (try (have c16b0x := c16b0; simp only [ByteArray.size_extract, ByteArray.size_append, Nat.min_self, Nat.sub_zero] at c16b0x))
   (try (have c16b1x := c16b1; simp only [ByteArray.size_extract, ByteArray.size_append, Nat.min_self, Nat.sub_zero] at c16b1x))
   (try (have c19b0x := c19b0; simp only [ByteArray.size_extract, ByteArray.size_append, Nat.min_self, Nat.sub_zero] at c19b0x))
   go_wp2_with (first | (go_at_call 61; (with_reducible refine (pack_value.calls _ _ _ _ A17.out).mono ?_); rintro e w' ⟨rfl, ⟨nd, rfl⟩⟩; (try first | exact ⟨rfl, _, World.drewN_drewN _ _ _⟩ | exact ⟨rfl, _, Eq.trans (World.drewN_drewN _ _ _) (congrArg (World.drewN _) (Nat.add_assoc _ _ _))⟩)) | go_quiet (first | (go_at_call 61; (with_reducible refine (pack_value.calls _ _ _ _ A17.out).mono ?_); rintro e w' ⟨rfl, ⟨nd, rfl⟩⟩; (try first | exact ⟨rfl, _, World.drewN_drewN _ _ _⟩ | exact ⟨rfl, _, Eq.trans (World.drewN_drewN _ _ _) (congrArg (World.drewN _) (Nat.add_assoc _ _ _))⟩))))
   go_ret3
   exact ⟨by first | rfl | (simp; done) | (simp only [← hji14] <;> (first | rfl | simp)) | (simp [*]; done), dr_⟩
/-- A state of type 79 at block g of W; what its slices lead to came in by w0. -/
def IsS79 (w0 W : World) (g : Nat) (f0 : ByteArray) (f1 : Bool) : Prop := ∃ T_, T_ ∈ [79, 80, 81] ∧ W.heap[g]? = some (.cells #[.string f0, .bool f1] T_ (0, 0)) ∧ w0.heap.size ≤ g
theorem IsS79.grown {w0 W : World} {g : Nat} {f0 : ByteArray} {f1 : Bool} {W1 : World} {row : Option Nat} (h : IsS79 w0 W g f0 f1) (hw : W.grownBy W1 row) (hne : some g ≠ row) : IsS79 w0 W1 g f0 f1 := by
 obtain ⟨T_, hT_, hb, hg⟩ := h
 exact ⟨T_, hT_, blk_grown hb hw hne, hg⟩
theorem IsS79.own_neN {w0 W : World} {g : Nat} {f0 : ByteArray} {f1 : Bool} {α : Type} {d : Kd α} {e : Nat} {base : Nat} {ok : Nat → Prop} {v : Value} {xs : List α} (h : IsS79 w0 W g f0 f1) (ho : Kd.N d e W base ok v xs) (ht : ∀ T_, T_ ∈ [79, 80, 81] → e ≠ T_) : some g ≠ v.ownBlock := by
 obtain ⟨T_, hT_, hb, hg⟩ := h
 exact Kd.N_ne ho hb (ht _ hT_)
theorem IsS79.fresh {w0 W : World} {g : Nat} {f0 : ByteArray} {f1 : Bool} (h : IsS79 w0 W g f0 f1) : ∀ k, W.heap.size ≤ k → k ≠ g := by
 obtain ⟨T_, hT_, hb, hg⟩ := h
 exact Kd.freshB hb
theorem IsS79.kept {w0 W : World} {g : Nat} {f0 : ByteArray} {f1 : Bool} {W1 : World} {S : Nat → Prop} (h : IsS79 w0 W g f0 f1) (hk : Kept W W1 S) (hne : ¬ S g) : IsS79 w0 W1 g f0 f1 := by
 obtain ⟨T_, hT_, hb, hg⟩ := h
 exact ⟨T_, hT_, blk_kept hb hk hne, hg⟩
theorem IsS79.below {w0 W : World} {g : Nat} {f0 : ByteArray} {f1 : Bool} {W1 : World} (h : IsS79 w0 W g f0 f1) (hw : Below W.heap.size W W1) : IsS79 w0 W1 g f0 f1 := h.grown (grown_of_below hw none) (by simp)
theorem IsS79.alloc {w0 W : World} {g : Nat} {f0 : ByteArray} {f1 : Bool} (h : IsS79 w0 W g f0 f1) (o : Obj) : IsS79 w0 (W.alloc o) g f0 f1 := h.below (below_alloc (Below.refl _ _) o)
theorem IsS79.drewN {w0 W : World} {g : Nat} {f0 : ByteArray} {f1 : Bool} (h : IsS79 w0 W g f0 f1) (m : Nat) : IsS79 w0 (W.drewN m) g f0 f1 := h
theorem IsS79.drew {w0 W : World} {g : Nat} {f0 : ByteArray} {f1 : Bool} (h : IsS79 w0 W g f0 f1) : IsS79 w0 W.drew g f0 f1 := h
theorem IsS79.at_ {w0 W : World} {g : Nat} {f0 : ByteArray} {f1 : Bool} {w' : World} {m : Nat} (hq : W.drewN m = w') (h : IsS79 w0 W g f0 f1) : IsS79 w0 w' g f0 f1 := by subst hq; exact IsS79.drewN h m
theorem IsS79.apart {w0 W : World} {g : Nat} {f0 : ByteArray} {f1 : Bool} {α : Type} {d : Kd α} {e : Nat} {base : Nat} {ok : Nat → Prop} {v : Value} {xs : List α} (h : IsS79 w0 W g f0 f1) (ho : d.R e W base ok v xs) (ht : ∀ q, q ∈ e :: d.E → ∀ T_, T_ ∈ [79, 80, 81] → q ≠ T_) : d.R e W base (fun k => ok k ∧ k ≠ g) v xs := by
 obtain ⟨T_, hT_, hb, hg⟩ := h
 exact Kd.R_types ho hb (fun q hq => ht q hq _ hT_)
theorem IsS79.own_ne {w0 W : World} {g : Nat} {f0 : ByteArray} {f1 : Bool} {α : Type} {d : Kd α} {e : Nat} {base : Nat} {ok : Nat → Prop} {v : Value} {xs : List α} (h : IsS79 w0 W g f0 f1) (ho : d.R e W base ok v xs) (ht : ∀ T_, T_ ∈ [79, 80, 81] → e ≠ T_) : some g ≠ v.ownBlock := by
 obtain ⟨T_, hT_, hb, hg⟩ := h
 exact Kd.R_ne ho hb (ht _ hT_)
theorem IsS79.apartQ {w0 W : World} {g : Nat} {f0 : ByteArray} {f1 : Bool} {α : Type} {d : Kd α} {e : Nat} {base : Nat} {ok : Nat → Prop} {v : Value} {xs : List α} (h : IsS79 w0 W g f0 f1) (ho : d.Q e W base ok v xs) (ht : ∀ q, q ∈ e :: d.E → ∀ T_, T_ ∈ [79, 80, 81] → q ≠ T_) : d.Q e W base (fun k => ok k ∧ k ≠ g) v xs := by
 obtain ⟨T_, hT_, hb, hg⟩ := h
 exact Kd.Q_types ho hb (fun q hq => ht q hq _ hT_)
theorem IsS79.own_neQ {w0 W : World} {g : Nat} {f0 : ByteArray} {f1 : Bool} {α : Type} {d : Kd α} {e : Nat} {base : Nat} {ok : Nat → Prop} {v : Value} {xs : List α} (h : IsS79 w0 W g f0 f1) (ho : d.Q e W base ok v xs) (ht : ∀ T_, T_ ∈ [79, 80, 81] → e ≠ T_) : some g ≠ v.ownBlock := by
 obtain ⟨T_, hT_, hb, hg⟩ := h
 exact Kd.Q_ne ho hb (ht _ hT_)
theorem IsS79.apartS {w0 W : World} {g : Nat} {f0 : ByteArray} {f1 : Bool} {α : Type} {d : Kd α} {e : Nat} {base : Nat} {ok : Nat → Prop} {v : Value} {xs : List α} (h : IsS79 w0 W g f0 f1) (ho : d.S e W base ok v xs) (ht : ∀ q, q ∈ e :: d.E → ∀ T_, T_ ∈ [79, 80, 81] → q ≠ T_) : d.S e W base (fun k => ok k ∧ k ≠ g) v xs := by
 obtain ⟨T_, hT_, hb, hg⟩ := h
 exact Kd.S_types ho hb (fun q hq => ht q hq _ hT_)
theorem IsS79.own_neS {w0 W : World} {g : Nat} {f0 : ByteArray} {f1 : Bool} {α : Type} {d : Kd α} {e : Nat} {base : Nat} {ok : Nat → Prop} {v : Value} {xs : List α} (h : IsS79 w0 W g f0 f1) (ho : d.S e W base ok v xs) (ht : ∀ T_, T_ ∈ [79, 80, 81] → e ≠ T_) : some g ≠ v.ownBlock := by
 obtain ⟨T_, hT_, hb, hg⟩ := h
 exact Kd.S_ne ho hb (ht _ hT_)
theorem IsS79.lt {w0 W : World} {g : Nat} {f0 : ByteArray} {f1 : Bool} (h : IsS79 w0 W g f0 f1) : g < W.heap.size := by
 obtain ⟨T_, hT_, hb, hg⟩ := h
 exact blk_lt hb
theorem IsS79.ge {w0 W : World} {g : Nat} {f0 : ByteArray} {f1 : Bool} (h : IsS79 w0 W g f0 f1) : w0.heap.size ≤ g := by
 obtain ⟨T_, hT_, hb, hg⟩ := h
 exact hg
theorem IsS79.ne_blk {w0 W : World} {g : Nat} {f0 : ByteArray} {f1 : Bool} {a : Nat} {cs : Array Value} {t : TypeId} {fr : Nat × Nat} (h : IsS79 w0 W g f0 f1) (hb2 : W.heap[a]? = some (.cells cs t fr)) (ht : ∀ T_, T_ ∈ [79, 80, 81] → t ≠ T_) : g ≠ a := by
 obtain ⟨T_, hT_, hb, hg⟩ := h
 rintro rfl
 rw [hb] at hb2
 injection hb2 with hb2
 injection hb2 with _ ht2
 exact ht _ hT_ ht2.symm
theorem IsS79.far {w0 W : World} {g : Nat} {f0 : ByteArray} {f1 : Bool} {p : Addr} (h : IsS79 w0 W g f0 f1) (hne : g ≠ p.block) (u : Value) : IsS79 w0 (W.setCell p u) g f0 f1 := by
 obtain ⟨T_, hT_, hb, hg⟩ := h
 exact ⟨T_, hT_, blk_far hb hne u, hg⟩
theorem cellS79_0 {W : World} {T_ : TypeId} {g : Nat} {f0 : ByteArray} {f1 : Bool} (h : W.heap[g]? = some (.cells #[.string f0, .bool f1] T_ (0, 0))) : W.cell? ⟨g, 0, none⟩ = some (.string f0) := (blk_cell h 0).trans rfl
theorem IsS79.set_0 {w0 W : World} {g : Nat} {f0 : ByteArray} {f1 : Bool} (h : IsS79 w0 W g f0 f1) (x : ByteArray) : IsS79 w0 (W.setCell ⟨g, 0, none⟩ (.string x)) g x f1 := by
 obtain ⟨T_, hT_, hb, hg⟩ := h
 exact ⟨T_, hT_, by simpa using blk_set hb 0 (.string x), hg⟩
theorem cellS79_1 {W : World} {T_ : TypeId} {g : Nat} {f0 : ByteArray} {f1 : Bool} (h : W.heap[g]? = some (.cells #[.string f0, .bool f1] T_ (0, 0))) : W.cell? ⟨g, 1, none⟩ = some (.bool f1) := (blk_cell h 1).trans rfl
theorem IsS79.set_1 {w0 W : World} {g : Nat} {f0 : ByteArray} {f1 : Bool} (h : IsS79 w0 W g f0 f1) (x : Bool) : IsS79 w0 (W.setCell ⟨g, 1, none⟩ (.bool x)) g f0 x := by
 obtain ⟨T_, hT_, hb, hg⟩ := h
 exact ⟨T_, hT_, by simpa using blk_set hb 1 (.bool x), hg⟩
theorem hi79a_ {p q : Prop} (h : Aside0 p) (k : p → q := by intro h_; repeat (first | (with_reducible first | exact h_ | apply IsS79.alloc | apply IsS79.drewN | apply IsS79.drew | apply IsS79.set_0 | apply IsS79.set_1) | exact h_)) : q := k h.out
theorem hi79b_ {p q r : Prop} (h : Aside0 p) (n : Aside0 r) (k : p → r → q := by intro h_ n_; repeat (first | (with_reducible first | exact h_ | apply IsS79.alloc | apply IsS79.drewN | apply IsS79.drew | apply IsS79.set_0 | apply IsS79.set_1 | apply IsS79.far (hne := n_)) | exact h_)) : q := k h.out n.out
theorem hi79c_ {p q r s : Prop} (h : Aside0 p) (n : Aside0 r) (o : Aside0 s) (k : p → r → s → q := by intro h_ n_ o_; repeat (first | (with_reducible first | exact h_ | apply IsS79.alloc | apply IsS79.drewN | apply IsS79.drew | apply IsS79.set_0 | apply IsS79.set_1 | apply IsS79.far (hne := n_) | apply IsS79.far (hne := o_)) | exact h_)) : q := k h.out n.out o.out
theorem IsS79.new (w0 W : World) (f0 : ByteArray) (f1 : Bool) (hB : Below w0.heap.size w0 W) : IsS79 w0 (W.alloc (.cells #[.string f0, .bool f1] 79)) W.heap.size f0 f1 := ⟨79, by decide, by simpa using heap_alloc_new W _, hB.size⟩

def wal_Taker_Number.f (k : Nat) (s0_0 : ByteArray) (s0_1 : Bool) : Option (Int × ByteArray × Bool) := (pack_TakeNumber.f k s0_0).bind fun bt162 => (if s0_1 = true then (some (bt162.1, bt162.2.1, true)) else (some (bt162.1, bt162.2.1, (bt162.2.2 != 0))))
theorem wal_Taker_Number.mono : ∀ a0 a1 k, LeO (wal_Taker_Number.f k a0 a1) (wal_Taker_Number.f (k + 1) a0 a1) := by
 intro a0 a1 k
 unfold wal_Taker_Number.f
 repeat' with_reducible first | apply pack_TakeNumber.mono | apply LeO.refl | apply LeO.none | apply LeO.ite | refine LeO.bind ?_ (fun _ => ?_)
theorem wal_Taker_Number.calls (k : Nat) (g : Nat) (s0_0 : ByteArray) (s0_1 : Bool) (r1 : Int) (r2 : ByteArray) (r3 : Bool) (w0 w : World) (hI : IsS79 w0 w g s0_0 s0_1) (hB : Below w0.heap.size w0 w) (h : wal_Taker_Number.f k s0_0 s0_1 = some (r1, r2, r3)) :
  Calls Try.prog 86 #[.pointer (some ⟨g, 0, none⟩)] w fun e w' => e = .returned (.int .u64 r1) ∧ IsS79 w0 w' g r2 r3 ∧ Below w0.heap.size w0 w' ∧ KeepBut w w' g none := by
 have HI0 := a_ hI
 have HK := a_ (KeepBut.refl w g none)
 have HL := a_ hB.size
 clear hI
 have HW0 := a_ hB.size
 have HB := a_ hB
 clear hB
 have H := h
 unfold wal_Taker_Number.f at H
 clear h
 obtain ⟨⟨t162, t163, t164⟩, A2, H⟩ := ob_ H
 try dsimp only at H
 by_cases c3 : s0_1 = true
 ·subst c3
  have H1 : (some (t162, t163, true)) = some (r1, r2, r3) := by rw [if_pos rfl] at H; exact H
  clear H
  have H := H1
  clear H1
  obtain ⟨rfl, rfl, rfl⟩ := so3_ H
  obtain ⟨Tz4_, hTz4_, HGz4, hgz4⟩ := HI0.out
  have hcz4_0 := cellS79_0 HGz4
  have hcz4_1 := cellS79_1 HGz4
  have hfz4_0 := blk_frozen HGz4 0
  have hfz4_1 := blk_frozen HGz4 1
  clear HGz4 hgz4
  go_enter Try.func86, Try.ntmps86
  go_wp2_with (first | ((with_reducible refine gk_ 62 ?_); refine gl_ (some 11) Try.func62 #[.string s0_0] ?_; (with_reducible refine (pack_TakeNumber.calls _ s0_0 _ _ _ _ A2.out).mono ?_); rintro e w' ⟨rfl, ⟨nd, rfl⟩⟩; refine ⟨_, rfl, ?_⟩; (try (rw [drewN_self w]; generalize hq_ : World.drewN w _ = w5; have n0_ : Aside0 (IsS79 w0 w5 g s0_0 true) := ⟨by rw [← hq_]; exact (hi79a_ HI0)⟩; have n1_ : Aside0 (KeepBut w w5 g none) := ⟨by rw [← hq_]; exact (hk0_ HK)⟩; have n2_ : Aside0 (Below w0.heap.size w0 w5) := ⟨by rw [← hq_]; exact (hb1_ HB (IsS79.ge HI0.out))⟩; clear HI0 HK HB hq_; have HI0 := n0_; have HK := n1_; have HB := n2_; clear n0_ n1_ n2_; obtain ⟨Tz4_, hTz4_, HGz4, hgz4⟩ := HI0.out; have hcz4_0 := cellS79_0 HGz4; have hcz4_1 := cellS79_1 HGz4; have hfz4_0 := blk_frozen HGz4 0; have hfz4_1 := blk_frozen HGz4 1; clear HGz4 hgz4))))
  go_ret
  exact ⟨fz_, hi79a_ HI0, hb1_ HB (IsS79.ge HI0.out), hk0_ HK⟩
 replace c3 := Bool.eq_false_iff.mpr c3
 subst c3
 have H1 : (some (t162, t163, (t164 != 0))) = some (r1, r2, r3) := by rw [if_neg (show ¬ (false = true) by decide)] at H; exact H
 clear H
 have H := H1
 clear H1
 obtain ⟨rfl, rfl, rfl⟩ := so3_ H
 obtain ⟨Tz6_, hTz6_, HGz6, hgz6⟩ := HI0.out
 have hcz6_0 := cellS79_0 HGz6
 have hcz6_1 := cellS79_1 HGz6
 have hfz6_0 := blk_frozen HGz6 0
 have hfz6_1 := blk_frozen HGz6 1
 clear HGz6 hgz6
 go_enter Try.func86, Try.ntmps86
 go_wp2_with (first | ((with_reducible refine gk_ 62 ?_); refine gl_ (some 11) Try.func62 #[.string s0_0] ?_; (with_reducible refine (pack_TakeNumber.calls _ s0_0 _ _ _ _ A2.out).mono ?_); rintro e w' ⟨rfl, ⟨nd, rfl⟩⟩; refine ⟨_, rfl, ?_⟩; (try (rw [drewN_self w]; generalize hq_ : World.drewN w _ = w7; have n0_ : Aside0 (IsS79 w0 w7 g s0_0 false) := ⟨by rw [← hq_]; exact (hi79a_ HI0)⟩; have n1_ : Aside0 (KeepBut w w7 g none) := ⟨by rw [← hq_]; exact (hk0_ HK)⟩; have n2_ : Aside0 (Below w0.heap.size w0 w7) := ⟨by rw [← hq_]; exact (hb1_ HB (IsS79.ge HI0.out))⟩; clear HI0 HK HB hq_; have HI0 := n0_; have HK := n1_; have HB := n2_; clear n0_ n1_ n2_; obtain ⟨Tz6_, hTz6_, HGz6, hgz6⟩ := HI0.out; have hcz6_0 := cellS79_0 HGz6; have hcz6_1 := cellS79_1 HGz6; have hfz6_0 := blk_frozen HGz6 0; have hfz6_1 := blk_frozen HGz6 1; clear HGz6 hgz6))))
 go_ret
 exact ⟨fz_, hi79a_ HI0, hb1_ HB (IsS79.ge HI0.out), hk0_ HK⟩

mutual
def wal_Taker_Ints.j0 : Nat → List Int → Int → ByteArray → Bool → Option (List Int × ByteArray × Bool)
 | 0, _, _, _, _ => none
 | k + 1, x3, x4, x1000, x1001 => wal_Taker_Ints.l0 k x3 x4 x1000 x1001
def wal_Taker_Ints.l0 : Nat → List Int → Int → ByteArray → Bool → Option (List Int × ByteArray × Bool)
 | 0, _, _, _, _ => none
 | k + 1, x3, x4, x1000, x1001 => if x4 > 0 then (if x1001 = true then (some (x3, x1000, x1001)) else ((wal_Taker_Number.f k x1000 x1001).bind fun bt168 => (if bt168.2.2 = true then (if x3.length < 17592186044416 then (wal_Taker_Ints.l0 k (x3 ++ [wrap64 (bt168.1)]) (IntKind.u64.wrap (x4 - 1)) bt168.2.1 true) else (none)) else (if x3.length < 17592186044416 then (wal_Taker_Ints.l0 k (x3 ++ [wrap64 (bt168.1)]) (IntKind.u64.wrap (x4 - 1)) bt168.2.1 (decide (bt168.1 > 7))) else (none))))) else (some (x3, x1000, x1001))
end
def wal_Taker_Ints.f (k : Nat) (s0_0 : ByteArray) (s0_1 : Bool) : Option (List Int × ByteArray × Bool) := (wal_Taker_Number.f k s0_0 s0_1).bind fun bt165 => (if bt165.2.2 = true then (wal_Taker_Ints.j0 k ([] : List Int) bt165.1 bt165.2.1 true) else (wal_Taker_Ints.j0 k ([] : List Int) bt165.1 bt165.2.1 (decide (bt165.1 > 7))))
theorem wal_Taker_Ints.mono_l : ∀ k, (∀ y0 y1 y2 y3, LeO (wal_Taker_Ints.j0 k y0 y1 y2 y3) (wal_Taker_Ints.j0 (k + 1) y0 y1 y2 y3)) ∧ (∀ y0 y1 y2 y3, LeO (wal_Taker_Ints.l0 k y0 y1 y2 y3) (wal_Taker_Ints.l0 (k + 1) y0 y1 y2 y3))
 | 0 => ⟨fun _ _ _ _ r h => by simp [wal_Taker_Ints.j0] at h, fun _ _ _ _ r h => by simp [wal_Taker_Ints.l0] at h⟩
 | k + 1 => by
  obtain ⟨ih0, ih1⟩ := wal_Taker_Ints.mono_l k
  refine ⟨?_, ?_⟩
  ·intro y0 y1 y2 y3
   unfold wal_Taker_Ints.j0
   repeat' with_reducible first | apply ih0 | apply ih1 | apply wal_Taker_Number.mono | apply LeO.refl | apply LeO.none | apply LeO.ite | refine LeO.bind ?_ (fun _ => ?_)
  ·intro y0 y1 y2 y3
   unfold wal_Taker_Ints.l0
   repeat' with_reducible first | apply ih0 | apply ih1 | apply wal_Taker_Number.mono | apply LeO.refl | apply LeO.none | apply LeO.ite | refine LeO.bind ?_ (fun _ => ?_)
theorem wal_Taker_Ints.mono : ∀ a0 a1 k, LeO (wal_Taker_Ints.f k a0 a1) (wal_Taker_Ints.f (k + 1) a0 a1) := by
 intro a0 a1 k
 obtain ⟨ih0, ih1⟩ := wal_Taker_Ints.mono_l k
 unfold wal_Taker_Ints.f
 repeat' with_reducible first | apply ih0 | apply ih1 | apply wal_Taker_Number.mono | apply LeO.refl | apply LeO.none | apply LeO.ite | refine LeO.bind ?_ (fun _ => ?_)
theorem wal_Taker_Ints.calls (k : Nat) (g : Nat) (s0_0 : ByteArray) (s0_1 : Bool) (r1 : List Int) (r2 : ByteArray) (r3 : Bool) (w0 w : World) (hI : IsS79 w0 w g s0_0 s0_1) (hB : Below w0.heap.size w0 w) (h : wal_Taker_Ints.f k s0_0 s0_1 = some (r1, r2, r3)) :
  Calls Try.prog 87 #[.pointer (some ⟨g, 0, none⟩)] w fun e w' => ∃ v0_ : Value, e = .returned (v0_) ∧ Kd.R (Kd.int .i64) 3 w' w.heap.size (fun _ => True) v0_ r1 ∧ IsS79 w0 w' g r2 r3 ∧ Below w0.heap.size w0 w' ∧ KeepBut w w' g none := by
 have HI0 := a_ hI
 have HK := a_ (KeepBut.refl w g none)
 have HL := a_ hB.size
 clear hI
 have HW0 := a_ hB.size
 have HB := a_ hB
 clear hB
 have H := h
 unfold wal_Taker_Ints.f at H
 clear h
 obtain ⟨⟨t165, t166, t167⟩, A2, H⟩ := ob_ H
 try dsimp only at H
 have HC3 := a_ H
 clear H
 go_enter Try.func87, Try.ntmps87
 go_upto_region 3 with (first | ((with_reducible refine gk_ 86 ?_); refine gl_ (some 7) Try.func86 #[.pointer (some ⟨g, 0, none⟩)] ?_; (with_reducible refine (wal_Taker_Number.calls _ g s0_0 s0_1 _ _ _ w0 _ ?side1 ?side2 A2.out).mono ?_); (case side1 => exact hi79a_ HI0); (case side2 => exact hb1_ HB (IsS79.ge HI0.out)); rintro e w4 ⟨rfl, hi, hb, hk⟩; refine ⟨_, rfl, ?_⟩; replace HK := a_ (KeepBut.trans (hk0_ HK) hk (.inl rfl)); replace HB := a_ (hb); replace HI0 := a_ (hi); (try clear hb)))
 (try simp only [Act.put, List.setIfInBounds_toArray, List.set_cons_zero, List.set_cons_succ])
 go_cut [] (fun wc => ∃ (kq : Nat) (x1001_2 : Bool), Aside0 (wal_Taker_Ints.j0 kq ([] : List Int) t165 t166 x1001_2 = some (r1, r2, r3)) ∧ Aside0 (kq ≤ k) ∧ Aside0 (Kd.R (Kd.int .i64) 3 wc w.heap.size (fun _ => True) (.slice none 0 0) ([] : List Int)) ∧ Aside0 (IsS79 w0 wc g t166 x1001_2) ∧ Aside0 (KeepBut w wc g none) ∧ Aside0 (Below w0.heap.size w0 wc))
 case first =>
  have H := HC3.out
  clear HC3
  by_cases c5 : t167 = true
  ·subst c5
   have H1 : (wal_Taker_Ints.j0 k ([] : List Int) t165 t166 true) = some (r1, r2, r3) := by rw [if_pos rfl] at H; exact H
   clear H
   have H := H1
   clear H1
   have H' := a_ H
   clear H
   obtain ⟨Tz6_, hTz6_, HGz6, hgz6⟩ := HI0.out
   have hcz6_0 := cellS79_0 HGz6
   have hcz6_1 := cellS79_1 HGz6
   have hfz6_0 := blk_frozen HGz6 0
   have hfz6_1 := blk_frozen HGz6 1
   clear HGz6 hgz6
   go_wp2
   go_meet
   case rel => exact ⟨_, (true), H', ⟨by first | omega | exact Nat.le_refl _⟩, ⟨nl_⟩, ⟨hi79a_ HI0⟩, ⟨hk0_ HK⟩, ⟨hb1_ HB (IsS79.ge HI0.out)⟩⟩
  replace c5 := Bool.eq_false_iff.mpr c5
  subst c5
  have H1 : (wal_Taker_Ints.j0 k ([] : List Int) t165 t166 (decide (t165 > 7))) = some (r1, r2, r3) := by rw [if_neg (show ¬ (false = true) by decide)] at H; exact H
  clear H
  have H := H1
  clear H1
  have H' := a_ H
  clear H
  obtain ⟨Tz7_, hTz7_, HGz7, hgz7⟩ := HI0.out
  have hcz7_0 := cellS79_0 HGz7
  have hcz7_1 := cellS79_1 HGz7
  have hfz7_0 := blk_frozen HGz7 0
  have hfz7_1 := blk_frozen HGz7 1
  clear HGz7 hgz7
  go_wp2
  go_meet
  case rel => exact ⟨_, (decide (t165 > 7)), H', ⟨by first | omega | exact Nat.le_refl _⟩, ⟨nl_⟩, ⟨hi79a_ HI0⟩, ⟨hk0_ HK⟩, ⟨hb1_ HB (IsS79.ge HI0.out)⟩⟩
 case rest =>
  clear HC3
  obtain ⟨kq, x1001_2, HA, HJ2, HO_3, HI0, HK, HB⟩ := hcut
  cases kq with
  | zero => exact absurd HA.out (by simp [wal_Taker_Ints.j0])
  | succ kj2 =>
   have H := HA.out
   clear HA
   simp only [wal_Taker_Ints.j0] at H
   have H' := a_ H
   clear H
   go_wp2
   go_loopg [3, 4] kj2 (fun kq v3 v4 w' => ∃ (x3_2 : List Int) (x4_2 : Int) (x1000_2 : ByteArray) (x1001_2 : Bool), v4 = .int .u64 x4_2 ∧ Aside0 (wal_Taker_Ints.l0 kq x3_2 x4_2 x1000_2 x1001_2 = some (r1, r2, r3)) ∧ Aside0 (kq ≤ kj2) ∧ Aside0 (Kd.R (Kd.int .i64) 3 w' w.heap.size (fun _ => True) v3 x3_2) ∧ Aside0 (IsS79 w0 w' g x1000_2 x1001_2) ∧ Aside0 (KeepBut w w' g none) ∧ Aside0 (Below w0.heap.size w0 w'))
   case atStart => exact ⟨(([] : List Int)), (t165), (t166), (x1001_2), fz_, H', ⟨Nat.le_refl _⟩, ⟨by refine rq_ ?_; exact HO_3.out⟩, ⟨hi79a_ HI0⟩, ⟨hk0_ HK⟩, ⟨hb1_ HB (IsS79.ge HI0.out)⟩⟩
   case round =>
    clear H'
    obtain ⟨x3_2, x4_2, x1000_2, x1001_2, rfl, HA, HK2, HO_3, HI0, HK, HB⟩ := hrel
    cases gk with
    | zero => exact absurd HA.out (by simp [wal_Taker_Ints.l0])
    | succ k2 =>
     have H := HA.out
     clear HA
     simp only [wal_Taker_Ints.l0] at H
     by_cases c8 : x4_2 > 0
     rotate_left
     ·rw [if_neg c8] at H
      have c8b0 : decide (0 < x4_2) = false := decide_eq_false c8
      clear c8
      obtain ⟨rfl, rfl, rfl⟩ := so3_ H
      go_wp2
      go_ret
      exact ⟨_, fz_, by refine rq_ ?_; exact HO_3.out, hi79a_ HI0, hb1_ HB (IsS79.ge HI0.out), hk0_ HK⟩


     rw [if_pos c8] at H
     have c8b0 : decide (0 < x4_2) = true := decide_eq_true c8
     clear c8
     by_cases c9 : x1001_2 = true
     ·subst c9
      have H1 : (some (x3_2, x1000_2, true)) = some (r1, r2, r3) := by rw [if_pos rfl] at H; exact H
      clear H
      have H := H1
      clear H1
      obtain ⟨rfl, rfl, rfl⟩ := so3_ H
      obtain ⟨Tz10_, hTz10_, HGz10, hgz10⟩ := HI0.out
      have hcz10_0 := cellS79_0 HGz10
      have hcz10_1 := cellS79_1 HGz10
      have hfz10_0 := blk_frozen HGz10 0
      have hfz10_1 := blk_frozen HGz10 1
      clear HGz10 hgz10
      go_wp2
      go_ret
      exact ⟨_, fz_, by refine rq_ ?_; exact HO_3.out, hi79a_ HI0, hb1_ HB (IsS79.ge HI0.out), hk0_ HK⟩
     replace c9 := Bool.eq_false_iff.mpr c9
     subst c9
     have H1 : ((wal_Taker_Number.f k2 x1000_2 false).bind fun bt168 => (if bt168.2.2 = true then (if x3_2.length < 17592186044416 then (wal_Taker_Ints.l0 k2 (x3_2 ++ [wrap64 (bt168.1)]) (IntKind.u64.wrap (x4_2 - 1)) bt168.2.1 true) else (none)) else (if x3_2.length < 17592186044416 then (wal_Taker_Ints.l0 k2 (x3_2 ++ [wrap64 (bt168.1)]) (IntKind.u64.wrap (x4_2 - 1)) bt168.2.1 (decide (bt168.1 > 7))) else (none)))) = some (r1, r2, r3) := by rw [if_neg (show ¬ (false = true) by decide)] at H; exact H
     clear H
     have H := H1
     clear H1
     obtain ⟨⟨t168, t169, t170⟩, A11, H⟩ := ob_ H
     try dsimp only at H
     by_cases c12 : t170 = true
     ·subst c12
      have H1 : (if x3_2.length < 17592186044416 then (wal_Taker_Ints.l0 k2 (x3_2 ++ [wrap64 (t168)]) (IntKind.u64.wrap (x4_2 - 1)) t169 true) else (none)) = some (r1, r2, r3) := by rw [if_pos rfl] at H; exact H
      clear H
      have H := H1
      clear H1
      replace H := iq_ H
      obtain ⟨c13, H⟩ := H
      have LMc13 := a_ c13
      clear c13
      obtain ⟨y171, hy171⟩ : ∃ y_ : List Int, y_ = (x3_2 ++ [wrap64 (t168)]) := ⟨_, rfl⟩
      replace H : (wal_Taker_Ints.l0 k2 y171 (IntKind.u64.wrap (x4_2 - 1)) t169 true) = some (r1, r2, r3) := by first | (rw [hy171]; with_reducible exact H) | (have H2_ := (Option.bind_some _ _).symm.trans H; rw [hy171]; with_reducible exact H2_) | (have H2_ := (Option.bind_some _ _).symm.trans H; with_reducible exact H2_) | with_reducible exact H | (rw [hy171]; exact H) | exact H
      have Ny171 := a_ hy171
      clear hy171
      have H' := a_ H
      clear H
      obtain ⟨Tz14_, hTz14_, HGz14, hgz14⟩ := HI0.out
      have hcz14_0 := cellS79_0 HGz14
      have hcz14_1 := cellS79_1 HGz14
      have hfz14_0 := blk_frozen HGz14 0
      have hfz14_1 := blk_frozen HGz14 1
      clear HGz14 hgz14
      go_wp2_with (first | ((with_reducible refine gk_ 86 ?_); refine gl_ (some 31) Try.func86 #[.pointer (some ⟨g, 0, none⟩)] ?_; (with_reducible refine (wal_Taker_Number.calls _ g _ _ _ _ _ w0 _ ?side1 ?side2 A11.out).mono ?_); (case side1 => exact hi79a_ HI0); (case side2 => exact hb1_ HB (IsS79.ge HI0.out)); rintro e w15 ⟨rfl, hi, hb, hk⟩; refine ⟨_, rfl, ?_⟩; replace HO_3 := a_ (Kd.R_mono (Kd.R_keep (IsS79.apart (show IsS79 w0 _ g x1000_2 false from hi79a_ HI0) (by refine rq_ ?_; exact HO_3.out) (by decide)) hk (fun _ h => h.2)) (fun _ h => h.1)); replace HK := a_ (KeepBut.trans (hk0_ HK) hk (.inl rfl)); replace HB := a_ (hb); replace HI0 := a_ (hi); (try clear hb); obtain ⟨Tz16_, hTz16_, HGz16, hgz16⟩ := HI0.out; have hcz16_0 := cellS79_0 HGz16; have hcz16_1 := cellS79_1 HGz16; have hfz16_0 := blk_frozen HGz16 0; have hfz16_1 := blk_frozen HGz16 1; clear HGz16 hgz16) | ((with_reducible refine gate_builtin (b := .append) (xs := #[.tmp 43, .tmp 46]) rfl ?_); at_builtin; refine Kd.R_append (Kd.int .i64) w.heap.size rfl (.tmp 43) (.tmp 46) 38 3 (.int .i64 0) 8 rfl Try.underlying38 info3 rfl (by decide) (by omega) u3 x3_2 (wrap64 (t168)) [.int .i64 (wrap64 (t168))] (fun _ => True) (fun _ => False) rfl (by first | (go_simp; done) | (go_simp; rfl)) ?aP (fun _ hk => hk.elim) ?aF ?aO (Below.refl _ _) ?aS ?aL ?_; (case aP => exact rfl); (case aF => exact (fun _ _ => trivial)); (case aO => exact (by refine rq_ ?_; exact Kd.R_mono (Kd.R_far (p := ⟨g, 1, none⟩) (IsS79.apart HI0.out HO_3.out (by decide)) (fun _ hk => hk.2) (.bool true)) (fun _ hk => trivial))); (case aS => exact (keep_size (w := w) (g := g) (row := none) (hk0_ HK))); (case aL => have := LMc13.out; omega); intro v172 w17 ho hb hg hat; rw [← Ny171.out] at ho; replace HB := a_ (below_weaken (hb1_ HB (IsS79.ge HI0.out)) HL.out hb); replace HI0 := a_ (IsS79.grown (hi79a_ HI0) hg (IsS79.own_ne HI0.out HO_3.out (by decide))); replace HK := a_ (KeepBut.trans (hk0_ HK) (KeepBut.of_grown hg g) (Kd.R_base2 HO_3.out)); have HO173 := a_ (ho); clear HO_3; clear ho hb hg hat))
      go_roundg k2
      case measure => have := HJ2.out; have := HK2.out; omega
      case rel => exact ⟨(y171), (IntKind.u64.wrap (x4_2 - 1)), (t169), (true), fz_, H', ⟨by have := HJ2.out; have := HK2.out; omega⟩, ⟨by refine rq_ ?_; exact HO173.out⟩, ⟨hi79a_ HI0⟩, ⟨hk0_ HK⟩, ⟨hb1_ HB (IsS79.ge HI0.out)⟩⟩
     replace c12 := Bool.eq_false_iff.mpr c12
     subst c12
     have H1 : (if x3_2.length < 17592186044416 then (wal_Taker_Ints.l0 k2 (x3_2 ++ [wrap64 (t168)]) (IntKind.u64.wrap (x4_2 - 1)) t169 (decide (t168 > 7))) else (none)) = some (r1, r2, r3) := by rw [if_neg (show ¬ (false = true) by decide)] at H; exact H
     clear H
     have H := H1
     clear H1
     replace H := iq_ H
     obtain ⟨c18, H⟩ := H
     have LMc18 := a_ c18
     clear c18
     obtain ⟨y174, hy174⟩ : ∃ y_ : List Int, y_ = (x3_2 ++ [wrap64 (t168)]) := ⟨_, rfl⟩
     replace H : (wal_Taker_Ints.l0 k2 y174 (IntKind.u64.wrap (x4_2 - 1)) t169 (decide (t168 > 7))) = some (r1, r2, r3) := by first | (rw [hy174]; with_reducible exact H) | (have H2_ := (Option.bind_some _ _).symm.trans H; rw [hy174]; with_reducible exact H2_) | (have H2_ := (Option.bind_some _ _).symm.trans H; with_reducible exact H2_) | with_reducible exact H | (rw [hy174]; exact H) | exact H
     have Ny174 := a_ hy174
     clear hy174
     have H' := a_ H
     clear H
     obtain ⟨Tz19_, hTz19_, HGz19, hgz19⟩ := HI0.out
     have hcz19_0 := cellS79_0 HGz19
     have hcz19_1 := cellS79_1 HGz19
     have hfz19_0 := blk_frozen HGz19 0
     have hfz19_1 := blk_frozen HGz19 1
     clear HGz19 hgz19
     go_wp2_with (first | ((with_reducible refine gk_ 86 ?_); refine gl_ (some 31) Try.func86 #[.pointer (some ⟨g, 0, none⟩)] ?_; (with_reducible refine (wal_Taker_Number.calls _ g _ _ _ _ _ w0 _ ?side1 ?side2 A11.out).mono ?_); (case side1 => exact hi79a_ HI0); (case side2 => exact hb1_ HB (IsS79.ge HI0.out)); rintro e w20 ⟨rfl, hi, hb, hk⟩; refine ⟨_, rfl, ?_⟩; replace HO_3 := a_ (Kd.R_mono (Kd.R_keep (IsS79.apart (show IsS79 w0 _ g x1000_2 false from hi79a_ HI0) (by refine rq_ ?_; exact HO_3.out) (by decide)) hk (fun _ h => h.2)) (fun _ h => h.1)); replace HK := a_ (KeepBut.trans (hk0_ HK) hk (.inl rfl)); replace HB := a_ (hb); replace HI0 := a_ (hi); (try clear hb); obtain ⟨Tz21_, hTz21_, HGz21, hgz21⟩ := HI0.out; have hcz21_0 := cellS79_0 HGz21; have hcz21_1 := cellS79_1 HGz21; have hfz21_0 := blk_frozen HGz21 0; have hfz21_1 := blk_frozen HGz21 1; clear HGz21 hgz21) | ((with_reducible refine gate_builtin (b := .append) (xs := #[.tmp 43, .tmp 46]) rfl ?_); at_builtin; refine Kd.R_append (Kd.int .i64) w.heap.size rfl (.tmp 43) (.tmp 46) 38 3 (.int .i64 0) 8 rfl Try.underlying38 info3 rfl (by decide) (by omega) u3 x3_2 (wrap64 (t168)) [.int .i64 (wrap64 (t168))] (fun _ => True) (fun _ => False) rfl (by first | (go_simp; done) | (go_simp; rfl)) ?aP (fun _ hk => hk.elim) ?aF ?aO (Below.refl _ _) ?aS ?aL ?_; (case aP => exact rfl); (case aF => exact (fun _ _ => trivial)); (case aO => exact (by refine rq_ ?_; exact Kd.R_mono (Kd.R_far (p := ⟨g, 1, none⟩) (IsS79.apart HI0.out HO_3.out (by decide)) (fun _ hk => hk.2) (.bool (decide (t168 > 7)))) (fun _ hk => trivial))); (case aS => exact (keep_size (w := w) (g := g) (row := none) (hk0_ HK))); (case aL => have := LMc18.out; omega); intro v175 w22 ho hb hg hat; rw [← Ny174.out] at ho; replace HB := a_ (below_weaken (hb1_ HB (IsS79.ge HI0.out)) HL.out hb); replace HI0 := a_ (IsS79.grown (hi79a_ HI0) hg (IsS79.own_ne HI0.out HO_3.out (by decide))); replace HK := a_ (KeepBut.trans (hk0_ HK) (KeepBut.of_grown hg g) (Kd.R_base2 HO_3.out)); have HO176 := a_ (ho); clear HO_3; clear ho hb hg hat))
     go_roundg k2
     case measure => have := HJ2.out; have := HK2.out; omega
     case rel => exact ⟨(y174), (IntKind.u64.wrap (x4_2 - 1)), (t169), (decide (t168 > 7)), fz_, H', ⟨by have := HJ2.out; have := HK2.out; omega⟩, ⟨by refine rq_ ?_; exact HO176.out⟩, ⟨hi79a_ HI0⟩, ⟨hk0_ HK⟩, ⟨hb1_ HB (IsS79.ge HI0.out)⟩⟩
def pack_TakeText.f (k : Nat) (a0 : ByteArray) : Option (ByteArray × ByteArray × Int) := (pack_TakeNumber.f k a0).bind fun bt177 => (if bt177.2.2 = 0 then (if bt177.1 > 65536 then (some ((⟨#[]⟩ : ByteArray), (⟨#[]⟩ : ByteArray), 2)) else (if bt177.1 > (IntKind.u64.wrap ((bt177.2.1.size : Int))) then (some ((⟨#[]⟩ : ByteArray), (⟨#[]⟩ : ByteArray), 3)) else (if 0 ≤ bt177.1 then (if bt177.1 ≤ (bt177.2.1.size : Int) then (some (bt177.2.1.extract 0 (bt177.1 : Int).toNat, bt177.2.1.extract (bt177.1 : Int).toNat bt177.2.1.size, 0)) else (none)) else (none)))) else (some ((⟨#[]⟩ : ByteArray), (⟨#[]⟩ : ByteArray), bt177.2.2)))
theorem pack_TakeText.mono : ∀ a0 k, LeO (pack_TakeText.f k a0) (pack_TakeText.f (k + 1) a0) := by
 intro a0 k
 unfold pack_TakeText.f
 repeat' with_reducible first | apply pack_TakeNumber.mono | apply LeO.refl | apply LeO.none | apply LeO.ite | refine LeO.bind ?_ (fun _ => ?_)
theorem pack_TakeText.calls (k : Nat) (a0 : ByteArray) (r1 : ByteArray) (r2 : ByteArray) (r3 : Int) (w : World) (h : pack_TakeText.f k a0 = some (r1, r2, r3)) :
  Calls Try.prog 106 #[.string a0] w fun e w' => e = .returned (.tuple #[.string r1, .string r2, .int .i64 r3]) ∧ Drawn0 w w' := by
 have H := h
 unfold pack_TakeText.f at H
 clear h
 obtain ⟨⟨t_1, t_2, t_3⟩, A_2, H⟩ := ob_ H
 try dsimp only at H
 by_cases c_1 : t_3 = 0
 rotate_left
 focus
  rw [if_neg c_1] at H
  obtain ⟨c_2, c_3⟩ := bn_ c_1
  obtain ⟨rfl, rfl, rfl⟩ := so3_ H
 rotate_left
 focus
  rw [if_pos c_1] at H
  obtain ⟨c_2, c_3⟩ := be_ c_1
  clear c_1
  by_cases c_4 : t_1 > 65536
  focus
   rw [if_pos c_4] at H
   have c_5 : decide (65536 < t_1) = true := decide_eq_true c_4
   clear c_4
   obtain ⟨rfl, rfl, rfl⟩ := so3_ H
  rotate_left
  focus
   rw [if_neg c_4] at H
   have c_5 : decide (65536 < t_1) = false := decide_eq_false c_4
   clear c_4
   by_cases c_6 : t_1 > (IntKind.u64.wrap ((t_2.size : Int)))
   focus
    rw [if_pos c_6] at H
    have c_7 : decide ((IntKind.u64.wrap ((t_2.size : Int))) < t_1) = true := decide_eq_true c_6
    clear c_6
    obtain ⟨rfl, rfl, rfl⟩ := so3_ H
   rotate_left
   focus
    rw [if_neg c_6] at H
    have c_7 : decide ((IntKind.u64.wrap ((t_2.size : Int))) < t_1) = false := decide_eq_false c_6
    clear c_6
    replace H := iq_ H
    obtain ⟨c_8, H⟩ := H
    have c_9 := eq_true c_8
    have c_10 : decide (0 ≤ t_1) = true := decide_eq_true c_8
    clear c_8
    replace H := iq_ H
    obtain ⟨c_11, H⟩ := H
    have c_12 := eq_true c_11
    have c_13 : decide (t_1 ≤ (t_2.size : Int)) = true := decide_eq_true c_11
    clear c_11
    have c_14 := eq_true (od_ : 0 ≤ t_1)
    have c_15 := eq_true (od_ : t_1 ≤ (t_2.size : Int))
    obtain ⟨rfl, rfl, rfl⟩ := so3_ H
 all_goals
  go_enter Try.func106, Try.ntmps106
  go_wp2_with (first | (go_at_call 62; (with_reducible refine (pack_TakeNumber.calls _ _ _ _ _ _ A_2.out).mono ?_); rintro e w' ⟨rfl, ⟨nd, rfl⟩⟩; (try first | exact ⟨rfl, _, World.drewN_drewN _ _ _⟩ | exact ⟨rfl, _, Eq.trans (World.drewN_drewN _ _ _) (congrArg (World.drewN _) (Nat.add_assoc _ _ _))⟩)) | go_quiet (first | (go_at_call 62; (with_reducible refine (pack_TakeNumber.calls _ _ _ _ _ _ A_2.out).mono ?_); rintro e w' ⟨rfl, ⟨nd, rfl⟩⟩; (try first | exact ⟨rfl, _, World.drewN_drewN _ _ _⟩ | exact ⟨rfl, _, Eq.trans (World.drewN_drewN _ _ _) (congrArg (World.drewN _) (Nat.add_assoc _ _ _))⟩))))
  go_ret3
  exact ⟨fz_, dr_⟩

def wal_Taker_Text.f (k : Nat) (s0_0 : ByteArray) (s0_1 : Bool) : Option (ByteArray × ByteArray × Bool) := (pack_TakeText.f k s0_0).bind fun bt180 => (if s0_1 = true then (some (bt180.1, bt180.2.1, true)) else (some (bt180.1, bt180.2.1, (bt180.2.2 != 0))))
theorem wal_Taker_Text.mono : ∀ a0 a1 k, LeO (wal_Taker_Text.f k a0 a1) (wal_Taker_Text.f (k + 1) a0 a1) := by
 intro a0 a1 k
 unfold wal_Taker_Text.f
 repeat' with_reducible first | apply pack_TakeText.mono | apply LeO.refl | apply LeO.none | apply LeO.ite | refine LeO.bind ?_ (fun _ => ?_)
theorem wal_Taker_Text.calls (k : Nat) (g : Nat) (s0_0 : ByteArray) (s0_1 : Bool) (r1 : ByteArray) (r2 : ByteArray) (r3 : Bool) (w0 w : World) (hI : IsS79 w0 w g s0_0 s0_1) (hB : Below w0.heap.size w0 w) (h : wal_Taker_Text.f k s0_0 s0_1 = some (r1, r2, r3)) :
  Calls Try.prog 88 #[.pointer (some ⟨g, 0, none⟩)] w fun e w' => e = .returned (.string r1) ∧ IsS79 w0 w' g r2 r3 ∧ Below w0.heap.size w0 w' ∧ KeepBut w w' g none := by
 have HI0 := a_ hI
 have HK := a_ (KeepBut.refl w g none)
 have HL := a_ hB.size
 clear hI
 have HW0 := a_ hB.size
 have HB := a_ hB
 clear hB
 have H := h
 unfold wal_Taker_Text.f at H
 clear h
 obtain ⟨⟨t180, t181, t182⟩, A2, H⟩ := ob_ H
 try dsimp only at H
 by_cases c3 : s0_1 = true
 ·subst c3
  have H1 : (some (t180, t181, true)) = some (r1, r2, r3) := by rw [if_pos rfl] at H; exact H
  clear H
  have H := H1
  clear H1
  obtain ⟨rfl, rfl, rfl⟩ := so3_ H
  obtain ⟨Tz4_, hTz4_, HGz4, hgz4⟩ := HI0.out
  have hcz4_0 := cellS79_0 HGz4
  have hcz4_1 := cellS79_1 HGz4
  have hfz4_0 := blk_frozen HGz4 0
  have hfz4_1 := blk_frozen HGz4 1
  clear HGz4 hgz4
  go_enter Try.func88, Try.ntmps88
  go_wp2_with (first | ((with_reducible refine gk_ 106 ?_); refine gl_ (some 11) Try.func106 #[.string s0_0] ?_; (with_reducible refine (pack_TakeText.calls _ s0_0 _ _ _ _ A2.out).mono ?_); rintro e w' ⟨rfl, ⟨nd, rfl⟩⟩; refine ⟨_, rfl, ?_⟩; (try (rw [drewN_self w]; generalize hq_ : World.drewN w _ = w5; have n0_ : Aside0 (IsS79 w0 w5 g s0_0 true) := ⟨by rw [← hq_]; exact (hi79a_ HI0)⟩; have n1_ : Aside0 (KeepBut w w5 g none) := ⟨by rw [← hq_]; exact (hk0_ HK)⟩; have n2_ : Aside0 (Below w0.heap.size w0 w5) := ⟨by rw [← hq_]; exact (hb1_ HB (IsS79.ge HI0.out))⟩; clear HI0 HK HB hq_; have HI0 := n0_; have HK := n1_; have HB := n2_; clear n0_ n1_ n2_; obtain ⟨Tz4_, hTz4_, HGz4, hgz4⟩ := HI0.out; have hcz4_0 := cellS79_0 HGz4; have hcz4_1 := cellS79_1 HGz4; have hfz4_0 := blk_frozen HGz4 0; have hfz4_1 := blk_frozen HGz4 1; clear HGz4 hgz4))))
  go_ret
  exact ⟨fz_, hi79a_ HI0, hb1_ HB (IsS79.ge HI0.out), hk0_ HK⟩
 replace c3 := Bool.eq_false_iff.mpr c3
 subst c3
 have H1 : (some (t180, t181, (t182 != 0))) = some (r1, r2, r3) := by rw [if_neg (show ¬ (false = true) by decide)] at H; exact H
 clear H
 have H := H1
 clear H1
 obtain ⟨rfl, rfl, rfl⟩ := so3_ H
 obtain ⟨Tz6_, hTz6_, HGz6, hgz6⟩ := HI0.out
 have hcz6_0 := cellS79_0 HGz6
 have hcz6_1 := cellS79_1 HGz6
 have hfz6_0 := blk_frozen HGz6 0
 have hfz6_1 := blk_frozen HGz6 1
 clear HGz6 hgz6
 go_enter Try.func88, Try.ntmps88
 go_wp2_with (first | ((with_reducible refine gk_ 106 ?_); refine gl_ (some 11) Try.func106 #[.string s0_0] ?_; (with_reducible refine (pack_TakeText.calls _ s0_0 _ _ _ _ A2.out).mono ?_); rintro e w' ⟨rfl, ⟨nd, rfl⟩⟩; refine ⟨_, rfl, ?_⟩; (try (rw [drewN_self w]; generalize hq_ : World.drewN w _ = w7; have n0_ : Aside0 (IsS79 w0 w7 g s0_0 false) := ⟨by rw [← hq_]; exact (hi79a_ HI0)⟩; have n1_ : Aside0 (KeepBut w w7 g none) := ⟨by rw [← hq_]; exact (hk0_ HK)⟩; have n2_ : Aside0 (Below w0.heap.size w0 w7) := ⟨by rw [← hq_]; exact (hb1_ HB (IsS79.ge HI0.out))⟩; clear HI0 HK HB hq_; have HI0 := n0_; have HK := n1_; have HB := n2_; clear n0_ n1_ n2_; obtain ⟨Tz6_, hTz6_, HGz6, hgz6⟩ := HI0.out; have hcz6_0 := cellS79_0 HGz6; have hcz6_1 := cellS79_1 HGz6; have hfz6_0 := blk_frozen HGz6 0; have hfz6_1 := blk_frozen HGz6 1; clear HGz6 hgz6))))
 go_ret
 exact ⟨fz_, hi79a_ HI0, hb1_ HB (IsS79.ge HI0.out), hk0_ HK⟩
def snap_Taker_Snap.f (k : Nat) (s0_0 : ByteArray) (s0_1 : Bool) : Option (Int × Int × List Int × ByteArray × ByteArray × Bool) := (wal_Taker_Number.f k s0_0 s0_1).bind fun bt184 => ((wal_Taker_Number.f k bt184.2.1 bt184.2.2).bind fun bt187 => ((wal_Taker_Ints.f k bt187.2.1 bt187.2.2).bind fun bt190 => ((wal_Taker_Text.f k bt190.2.1 bt190.2.2).bind fun bt195 => (if bt195.2.2 = true then (some (bt184.1, bt187.1, bt190.1, bt195.1, bt195.2.1, true)) else ((snap_Check.f k bt184.1 bt187.1 bt190.1 bt195.1).bind fun t199 => (some (bt184.1, bt187.1, bt190.1, bt195.1, bt195.2.1, (t199 != 0))))))))
theorem snap_Taker_Snap.mono : ∀ a0 a1 k, LeO (snap_Taker_Snap.f k a0 a1) (snap_Taker_Snap.f (k + 1) a0 a1) := by
 intro a0 a1 k
 unfold snap_Taker_Snap.f
 repeat' with_reducible first | apply snap_Check.mono | apply wal_Taker_Ints.mono | apply wal_Taker_Number.mono | apply wal_Taker_Text.mono | apply LeO.refl | apply LeO.none | apply LeO.ite | refine LeO.bind ?_ (fun _ => ?_)
def snap_Taker_Snap.T1 : Bool × List (List Nat × List Nat) := (true, [([], []), ([0], [0]), ([1], [1]), ([2], [2]), ([], []), ([4], [4]), ([5], [5]), ([6, 3], [6]), ([], []), ([8], [8]), ([9], [9]), ([10, 7], [10]), ([], []), ([12], [12]), ([13], [13]), ([14, 11], [14]), ([3, 7, 11, 15], [3, 7, 11, 15]), ([], []), ([17, 16, 15, 0, 1, 2, 3, 4, 5, 6, 7, 8, 9, 10, 11, 12, 13, 14, 15, 16, 17], [16, 17])])
def snap_Taker_Snap.B1 : List Nat := [0, 1, 3, 7, 0, 16, 48, 127, 0, 256, 768, 2047, 0, 4096, 12288, 32767, 65535, 0, 262143]
theorem snap_Taker_Snap.tab1 : rtab .any (opsOf Try.f53 1) = snap_Taker_Snap.T1 := by kernel_rfl
theorem snap_Taker_Snap.bits1 : waitsOk snap_Taker_Snap.T1.2 snap_Taker_Snap.B1 = true := by kernel_rfl
theorem snap_Taker_Snap.calls (k : Nat) (g : Nat) (s0_0 : ByteArray) (s0_1 : Bool) (r1 : Int) (r2 : Int) (r3 : List Int) (r4 : ByteArray) (r5 : ByteArray) (r6 : Bool) (w0 w : World) (hI : IsS79 w0 w g s0_0 s0_1) (hB : Below w0.heap.size w0 w) (h : snap_Taker_Snap.f k s0_0 s0_1 = some (r1, r2, r3, r4, r5, r6)) :
  Calls Try.prog 53 #[.pointer (some ⟨g, 0, none⟩)] w fun e w' => ∃ v2_ : Value, e = .returned (.agg #[.int .u64 r1, .int .u64 r2, v2_, .string r4]) ∧ Kd.R (Kd.int .i64) 3 w' w.heap.size (fun _ => True) v2_ r3 ∧ IsS79 w0 w' g r5 r6 ∧ Below w0.heap.size w0 w' ∧ KeepBut w w' g none := by
 have hu_1 := Try.underlying48
 have HI_1 := a_ hI
 have HK := a_ (KeepBut.refl w g none)
 have HL := a_ hB.size
 clear hI
 have HW_1 := a_ hB.size
 have HB := a_ hB
 clear hB
 have H := h
 unfold snap_Taker_Snap.f at H
 clear h
 obtain ⟨⟨t_1, t_2, t_3⟩, A_2, H⟩ := ob_ H
 try dsimp only at H
 obtain ⟨⟨t_4, t_5, t_6⟩, A_4, H⟩ := ob_ H
 try dsimp only at H
 obtain ⟨⟨t_7, t_8, t_9⟩, A_6, H⟩ := ob_ H
 try dsimp only at H
 obtain ⟨⟨t_10, t_11, t_12⟩, A_8, H⟩ := ob_ H
 try dsimp only at H
 go_enter Try.func53, Try.ntmps53
 try go_wp2_with (first | ((with_reducible refine gd_ 2 ?_); refine bz_ 2 #[.int .u64 0, .int .u64 0, .slice none 0 0, .string (⟨#[]⟩ : ByteArray)] 48 ?_; intro gb_1 hg w_1 BK_1 hb; replace HB := a_ (below_step (hb1_ HB (IsS79.ge HI_1.out)) hb); have GW_1 := a_ ((by rw [hg]; exact (keep_size (w := w) (g := g) (row := none) (hk0_ HK)) : w.heap.size ≤ gb_1)); have GE_1 := a_ ((Nat.le_trans HW_1.out (by rw [hg]; exact (keep_size (w := w) (g := g) (row := none) (hk0_ HK)) : w.heap.size ≤ gb_1) : w0.heap.size ≤ gb_1)); replace HK := a_ (KeepBut.trans (hk0_ HK) (KeepBut.of_below hb g none) (.inl rfl)); have NB_1 := a_ ((by rw [hg]; exact Nat.ne_of_lt (IsS79.lt (show IsS79 w0 _ g s0_0 s0_1 from hi79a_ HI_1)) : g ≠ gb_1)); have NB_2 := a_ ((by rw [hg]; exact Nat.ne_of_gt (IsS79.lt (show IsS79 w0 _ g s0_0 s0_1 from hi79a_ HI_1)) : gb_1 ≠ g)); replace HI_1 := a_ (IsS79.below (hi79a_ HI_1) hb); clear hb hg))
 replace BK_1 := a_ (blk_drew BK_1.out)
 replace HI_1 := a_ (IsS79.drew HI_1.out)
 replace HK := a_ (keep_drew HK.out)
 replace HB := a_ (below_drew1 HB.out)
 refine start_ (n := 19) (S := fun w' => True) (ds := []) #[false, false, false, false, false, false, false, false, false, false, false, false, false, false, false, false, false, false, false] (by kernel_rfl) rfl rfl trivial (fun hHeld => ?_); refine with_tabW snap_Taker_Snap.tab1 snap_Taker_Snap.bits1 (fun HT_ HW_ => ?_)
 generalize w_1.drew = w_2 at BK_1 HI_1 HK HB hHeld ⊢
 refine pu_ HT_ 0 (some 4) ?_
 refine pu_ HT_ 1 (some 5) ?_
 refine pu_ HT_ 2 (some 6) ?_
 refine pu_ HT_ 4 (some 8) ?_
 refine pu_ HT_ 5 (some 9) ?_
 refine pu_ HT_ 6 (some 10) ?_
 refine pu_ HT_ 8 (some 12) ?_
 refine pu_ HT_ 9 (some 13) ?_
 refine pu_ HT_ 10 (some 14) ?_
 refine pu_ HT_ 12 (some 16) ?_
 refine pu_ HT_ 13 (some 17) ?_
 refine pu_ HT_ 14 (some 18) ?_
 refine join_ (σ := Value × Nat) 1 #[true, true, true, true, true, true, true, true, true, true, true, true, true, true, true, true, true, true, false] (fun s_ => [(7, .int .u64 t_1), (11, .int .u64 t_4), (15, s_.1), (19, .string t_10), (3, .pointer (some ⟨s_.2, 0, none⟩)), (20, .agg #[.int .u64 t_1, .int .u64 t_4, s_.1, .string t_10])]) (fun s_ w' => (Kd.R (Kd.int .i64) 3 w' w.heap.size (fun _ => True) s_.1 t_7) ∧ (w'.heap[gb_1]? = some (.cells #[.int .u64 0, .int .u64 0, .slice none 0 0, .string (⟨#[]⟩ : ByteArray)] 48 (0, 0))) ∧ (w'.heap[s_.2]? = some (.cells #[.int .u64 0, .int .u64 0, .slice none 0 0, .string (⟨#[]⟩ : ByteArray)] 48 (0, 0))) ∧ (w.heap.size ≤ s_.2) ∧ (w0.heap.size ≤ s_.2) ∧ (g ≠ s_.2) ∧ (s_.2 ≠ g) ∧ (gb_1 ≠ s_.2) ∧ (s_.2 ≠ gb_1) ∧ (IsS79 w0 w' g t_11 t_12) ∧ (KeepBut w w' g none) ∧ (Below w0.heap.size w0 w')) ?_ ?_
 rotate_left
 ·intro hJ_1
  refine join_ (σ := Value) 2 #[true, true, true, true, true, true, true, true, true, true, true, true, true, true, true, true, true, false, false] (fun s_ => [(7, .int .u64 t_1), (11, .int .u64 t_4), (15, s_), (19, .string t_10), (20, .agg #[.int .u64 t_1, .int .u64 t_4, s_, .string t_10])]) (fun s_ w' => (Kd.R (Kd.int .i64) 3 w' w.heap.size (fun _ => True) s_ t_7) ∧ (w'.heap[gb_1]? = some (.cells #[.int .u64 0, .int .u64 0, .slice none 0 0, .string (⟨#[]⟩ : ByteArray)] 48 (0, 0))) ∧ (IsS79 w0 w' g t_11 t_12) ∧ (KeepBut w w' g none) ∧ (Below w0.heap.size w0 w')) ?_ ?_
  rotate_left
  ·intro hJ_2
   refine join_ (σ := Value × Nat) 3 #[true, true, true, true, true, true, true, true, true, true, true, true, true, true, true, false, false, true, false] (fun s_ => [(7, .int .u64 t_1), (11, .int .u64 t_4), (15, s_.1), (3, .pointer (some ⟨s_.2, 0, none⟩))]) (fun s_ w' => (Kd.R (Kd.int .i64) 3 w' w.heap.size (fun _ => True) s_.1 t_7) ∧ (w'.heap[gb_1]? = some (.cells #[.int .u64 0, .int .u64 0, .slice none 0 0, .string (⟨#[]⟩ : ByteArray)] 48 (0, 0))) ∧ (w'.heap[s_.2]? = some (.cells #[.int .u64 0, .int .u64 0, .slice none 0 0, .string (⟨#[]⟩ : ByteArray)] 48 (0, 0))) ∧ (w.heap.size ≤ s_.2) ∧ (w0.heap.size ≤ s_.2) ∧ (g ≠ s_.2) ∧ (s_.2 ≠ g) ∧ (gb_1 ≠ s_.2) ∧ (s_.2 ≠ gb_1) ∧ (IsS79 w0 w' g t_8 t_9) ∧ (KeepBut w w' g none) ∧ (Below w0.heap.size w0 w')) ?_ ?_
   rotate_left
   ·intro hJ_3
    refine join_ (σ := Value) 4 #[true, true, true, true, true, true, true, true, true, true, true, true, true, true, true, false, false, false, false] (fun s_ => [(7, .int .u64 t_1), (11, .int .u64 t_4), (15, s_)]) (fun s_ w' => (Kd.R (Kd.int .i64) 3 w' w.heap.size (fun _ => True) s_ t_7) ∧ (w'.heap[gb_1]? = some (.cells #[.int .u64 0, .int .u64 0, .slice none 0 0, .string (⟨#[]⟩ : ByteArray)] 48 (0, 0))) ∧ (IsS79 w0 w' g t_8 t_9) ∧ (KeepBut w w' g none) ∧ (Below w0.heap.size w0 w')) ?_ ?_
    rotate_left
    ·intro hJ_4
     refine join_ (σ := Nat) 4 #[true, true, true, true, true, true, true, true, true, true, true, false, true, true, true, false, false, true, false] (fun s_ => [(7, .int .u64 t_1), (11, .int .u64 t_4), (3, .pointer (some ⟨s_, 0, none⟩))]) (fun s_ w' => (w'.heap[gb_1]? = some (.cells #[.int .u64 0, .int .u64 0, .slice none 0 0, .string (⟨#[]⟩ : ByteArray)] 48 (0, 0))) ∧ (w'.heap[s_]? = some (.cells #[.int .u64 0, .int .u64 0, .slice none 0 0, .string (⟨#[]⟩ : ByteArray)] 48 (0, 0))) ∧ (w.heap.size ≤ s_) ∧ (w0.heap.size ≤ s_) ∧ (g ≠ s_) ∧ (s_ ≠ g) ∧ (gb_1 ≠ s_) ∧ (s_ ≠ gb_1) ∧ (IsS79 w0 w' g t_5 t_6) ∧ (KeepBut w w' g none) ∧ (Below w0.heap.size w0 w')) ?_ ?_
     rotate_left
     ·intro hJ_5
      refine join_ (σ := Unit) 5 #[true, true, true, true, true, true, true, true, true, true, true, false, true, true, true, false, false, false, false] (fun s_ => [(7, .int .u64 t_1), (11, .int .u64 t_4)]) (fun s_ w' => (w'.heap[gb_1]? = some (.cells #[.int .u64 0, .int .u64 0, .slice none 0 0, .string (⟨#[]⟩ : ByteArray)] 48 (0, 0))) ∧ (IsS79 w0 w' g t_5 t_6) ∧ (KeepBut w w' g none) ∧ (Below w0.heap.size w0 w')) ?_ ?_
      rotate_left
      ·intro hJ_6
       refine join_ (σ := Nat) 5 #[true, true, true, true, true, true, true, false, true, true, true, false, true, true, true, false, false, true, false] (fun s_ => [(7, .int .u64 t_1), (3, .pointer (some ⟨s_, 0, none⟩))]) (fun s_ w' => (w'.heap[gb_1]? = some (.cells #[.int .u64 0, .int .u64 0, .slice none 0 0, .string (⟨#[]⟩ : ByteArray)] 48 (0, 0))) ∧ (w'.heap[s_]? = some (.cells #[.int .u64 0, .int .u64 0, .slice none 0 0, .string (⟨#[]⟩ : ByteArray)] 48 (0, 0))) ∧ (w.heap.size ≤ s_) ∧ (w0.heap.size ≤ s_) ∧ (g ≠ s_) ∧ (s_ ≠ g) ∧ (gb_1 ≠ s_) ∧ (s_ ≠ gb_1) ∧ (IsS79 w0 w' g t_2 t_3) ∧ (KeepBut w w' g none) ∧ (Below w0.heap.size w0 w')) ?_ ?_
       rotate_left
       ·intro hJ_7
        refine join_ (σ := Unit) 6 #[true, true, true, true, true, true, true, false, true, true, true, false, true, true, true, false, false, false, false] (fun s_ => [(7, .int .u64 t_1)]) (fun s_ w' => (w'.heap[gb_1]? = some (.cells #[.int .u64 0, .int .u64 0, .slice none 0 0, .string (⟨#[]⟩ : ByteArray)] 48 (0, 0))) ∧ (IsS79 w0 w' g t_2 t_3) ∧ (KeepBut w w' g none) ∧ (Below w0.heap.size w0 w')) ?_ ?_
        rotate_left
        ·intro hJ_8
         refine join_ (σ := Nat) 6 #[true, true, true, false, true, true, true, false, true, true, true, false, true, true, true, false, false, true, false] (fun s_ => [(3, .pointer (some ⟨s_, 0, none⟩))]) (fun s_ w' => (w'.heap[gb_1]? = some (.cells #[.int .u64 0, .int .u64 0, .slice none 0 0, .string (⟨#[]⟩ : ByteArray)] 48 (0, 0))) ∧ (w'.heap[s_]? = some (.cells #[.int .u64 0, .int .u64 0, .slice none 0 0, .string (⟨#[]⟩ : ByteArray)] 48 (0, 0))) ∧ (w.heap.size ≤ s_) ∧ (w0.heap.size ≤ s_) ∧ (g ≠ s_) ∧ (s_ ≠ g) ∧ (gb_1 ≠ s_) ∧ (s_ ≠ gb_1) ∧ (IsS79 w0 w' g s0_0 s0_1) ∧ (KeepBut w w' g none) ∧ (Below w0.heap.size w0 w')) ?_ ?_
         rotate_left
         ·intro hJ_9
          refine two_ (i := 3) (j := 17) (Ni := some 7) (Nj := some 3) #[true, true, true, true, true, true, true, false, true, true, true, false, true, true, true, false, false, false, false] #[true, true, true, false, true, true, true, false, true, true, true, false, true, true, true, false, false, true, false] rfl rfl rfl rfl (two_of HT_.out (by kernel_rfl)) (by decide) (by decide) (fun K hK => ?_) (fun K hK => ?_)
          ·skip
           refine goes_ Try.func86 (by kernel_rfl) rfl #[.pointer (some ⟨g, 0, none⟩)] (by rfl) rfl rfl (ar_) ?_
           with_reducible refine (wal_Taker_Number.calls _ g s0_0 s0_1 _ _ _ w0 _ ?side1 ?side2 A_2.out).mono ?_
           (case side1 => exact HI_1.out)
           (case side2 => exact HB.out)
           rintro e w_3 ⟨rfl, hi, hb, hk⟩
           refine ⟨_, rfl, ?_⟩
           replace BK_1 := kb_ hk BK_1 NB_2
           replace HK := kt_ HK hk
           replace HB := a_ hb
           replace HI_1 := a_ hi
           clear hb hk hi
           refine hK.out _ _ trivial (fun hHeld => ?_)
           clear hK K
           refine nop_ ?_
           exact nrm_ (hJ_8 () _ ⟨bk_ BK_1, HI_1.out, HK.out, HB.out⟩)
          ·skip
           refine box_step ?hg (N := 3) ?hd (cs := #[.int .u64 0, .int .u64 0, .slice none 0 0, .string (⟨#[]⟩ : ByteArray)]) (t := 48) ?hr ?_; (case hd => rfl); (case hg => rfl); (case hr => first | (go_simp; done) | (go_simp; rfl))
           intro gb_2 hg w_3 hbox hb
           replace HB := a_ (below_step HB.out hb)
           have BK_2 := a_ hbox
           have GW_2 := a_ ((by rw [hg]; exact (keep_size (w := w) (g := g) (row := none) HK.out) : w.heap.size ≤ gb_2))
           have GE_2 := a_ ((Nat.le_trans HW_1.out (by rw [hg]; exact (keep_size (w := w) (g := g) (row := none) HK.out) : w.heap.size ≤ gb_2) : w0.heap.size ≤ gb_2))
           replace HK := a_ (KeepBut.trans HK.out (KeepBut.of_below hb g none) (.inl rfl))
           have NB_3 := nB_ hg BK_1
           have NB_4 := nC_ hg BK_1
           replace BK_1 := bB_ BK_1 hb
           have NB_5 := a_ ((by rw [hg]; exact Nat.ne_of_lt (IsS79.lt HI_1.out) : g ≠ gb_2))
           have NB_6 := a_ ((by rw [hg]; exact Nat.ne_of_gt (IsS79.lt HI_1.out) : gb_2 ≠ g))
           replace HI_1 := a_ (IsS79.below HI_1.out hb)
           clear hb hbox hg
           refine hK.out _ _ trivial (fun hHeld => ?_)
           clear hK K
           refine nop_ ?_
           exact nrm_ (hJ_9 (gb_2) _ ⟨bk_ BK_1, bk_ BK_2, GW_2.out, GE_2.out, NB_5.out, NB_6.out, NB_3.out, NB_4.out, HI_1.out, HK.out, HB.out⟩)
         ·skip
          rintro gb_2 w_4 ⟨h_1, h_2, h_3, h_4, h_5, h_6, h_7, h_8, h_9, h_10, h_11⟩
          replace BK_1 := a_ h_1
          have BK_2 := a_ h_2
          have GW_2 := a_ h_3
          have GE_2 := a_ h_4
          have NB_5 := a_ h_5
          have NB_6 := a_ h_6
          have NB_3 := a_ h_7
          have NB_4 := a_ h_8
          replace HI_1 := a_ h_9
          replace HK := a_ h_10
          replace HB := a_ h_11
          clear h_1 h_2 h_3 h_4 h_5 h_6 h_7 h_8 h_9 h_10 h_11
          refine nrn_ ?_
          refine on_ HT_ 3 (some 7) (fun K hK => ?_)
          refine goes_ Try.func86 (by kernel_rfl) rfl #[.pointer (some ⟨g, 0, none⟩)] (by rfl) rfl rfl (ar_) ?_
          with_reducible refine (wal_Taker_Number.calls _ g s0_0 s0_1 _ _ _ w0 _ ?side1 ?side2 A_2.out).mono ?_
          (case side1 => exact HI_1.out)
          (case side2 => exact HB.out)
          rintro e w_5 ⟨rfl, hi, hb, hk⟩
          refine ⟨_, rfl, ?_⟩
          replace BK_1 := kb_ hk BK_1 NB_2
          replace BK_2 := kb_ hk BK_2 NB_6
          replace HK := kt_ HK hk
          replace HB := a_ hb
          replace HI_1 := a_ hi
          clear hb hk hi
          refine hK.out _ _ trivial (fun hHeld => ?_)
          clear hK K
          refine nop_ ?_
          exact nrm_ (hJ_7 (gb_2) _ ⟨bk_ BK_1, bk_ BK_2, GW_2.out, GE_2.out, NB_5.out, NB_6.out, NB_3.out, NB_4.out, HI_1.out, HK.out, HB.out⟩)
        ·skip
         rintro _ w_4 ⟨h_1, h_2, h_3, h_4⟩
         replace BK_1 := a_ h_1
         replace HI_1 := a_ h_2
         replace HK := a_ h_3
         replace HB := a_ h_4
         clear h_1 h_2 h_3 h_4
         refine nrn_ ?_
         refine two_ (i := 7) (j := 17) (Ni := some 11) (Nj := some 3) #[true, true, true, true, true, true, true, true, true, true, true, false, true, true, true, false, false, false, false] #[true, true, true, true, true, true, true, false, true, true, true, false, true, true, true, false, false, true, false] rfl rfl rfl rfl (two_of HT_.out (by kernel_rfl)) (by decide) (by decide) (fun K hK => ?_) (fun K hK => ?_)
         ·skip
          refine goes_ Try.func86 (by kernel_rfl) rfl #[.pointer (some ⟨g, 0, none⟩)] (by rfl) rfl rfl (ar_) ?_
          with_reducible refine (wal_Taker_Number.calls _ g _ _ _ _ _ w0 _ ?side1 ?side2 A_4.out).mono ?_
          (case side1 => exact HI_1.out)
          (case side2 => exact HB.out)
          rintro e w_5 ⟨rfl, hi, hb, hk⟩
          refine ⟨_, rfl, ?_⟩
          replace BK_1 := kb_ hk BK_1 NB_2
          replace HK := kt_ HK hk
          replace HB := a_ hb
          replace HI_1 := a_ hi
          clear hb hk hi
          refine hK.out _ _ trivial (fun hHeld => ?_)
          clear hK K
          refine nop_ ?_
          exact nrm_ (hJ_6 () _ ⟨bk_ BK_1, HI_1.out, HK.out, HB.out⟩)
         ·skip
          refine box_step ?hg (N := 3) ?hd (cs := #[.int .u64 0, .int .u64 0, .slice none 0 0, .string (⟨#[]⟩ : ByteArray)]) (t := 48) ?hr ?_; (case hd => rfl); (case hg => rfl); (case hr => first | (go_simp; done) | (go_simp; rfl))
          intro gb_2 hg w_5 hbox hb
          replace HB := a_ (below_step HB.out hb)
          have BK_2 := a_ hbox
          have GW_2 := a_ ((by rw [hg]; exact (keep_size (w := w) (g := g) (row := none) HK.out) : w.heap.size ≤ gb_2))
          have GE_2 := a_ ((Nat.le_trans HW_1.out (by rw [hg]; exact (keep_size (w := w) (g := g) (row := none) HK.out) : w.heap.size ≤ gb_2) : w0.heap.size ≤ gb_2))
          replace HK := a_ (KeepBut.trans HK.out (KeepBut.of_below hb g none) (.inl rfl))
          have NB_3 := nB_ hg BK_1
          have NB_4 := nC_ hg BK_1
          replace BK_1 := bB_ BK_1 hb
          have NB_5 := a_ ((by rw [hg]; exact Nat.ne_of_lt (IsS79.lt HI_1.out) : g ≠ gb_2))
          have NB_6 := a_ ((by rw [hg]; exact Nat.ne_of_gt (IsS79.lt HI_1.out) : gb_2 ≠ g))
          replace HI_1 := a_ (IsS79.below HI_1.out hb)
          clear hb hbox hg
          refine hK.out _ _ trivial (fun hHeld => ?_)
          clear hK K
          refine nop_ ?_
          exact nrm_ (hJ_7 (gb_2) _ ⟨bk_ BK_1, bk_ BK_2, GW_2.out, GE_2.out, NB_5.out, NB_6.out, NB_3.out, NB_4.out, HI_1.out, HK.out, HB.out⟩)
       ·skip
        rintro gb_2 w_5 ⟨h_1, h_2, h_3, h_4, h_5, h_6, h_7, h_8, h_9, h_10, h_11⟩
        replace BK_1 := a_ h_1
        have BK_2 := a_ h_2
        have GW_2 := a_ h_3
        have GE_2 := a_ h_4
        have NB_5 := a_ h_5
        have NB_6 := a_ h_6
        have NB_3 := a_ h_7
        have NB_4 := a_ h_8
        replace HI_1 := a_ h_9
        replace HK := a_ h_10
        replace HB := a_ h_11
        clear h_1 h_2 h_3 h_4 h_5 h_6 h_7 h_8 h_9 h_10 h_11
        refine nrn_ ?_
        refine on_ HT_ 7 (some 11) (fun K hK => ?_)
        refine goes_ Try.func86 (by kernel_rfl) rfl #[.pointer (some ⟨g, 0, none⟩)] (by rfl) rfl rfl (ar_) ?_
        with_reducible refine (wal_Taker_Number.calls _ g _ _ _ _ _ w0 _ ?side1 ?side2 A_4.out).mono ?_
        (case side1 => exact HI_1.out)
        (case side2 => exact HB.out)
        rintro e w_6 ⟨rfl, hi, hb, hk⟩
        refine ⟨_, rfl, ?_⟩
        replace BK_1 := kb_ hk BK_1 NB_2
        replace BK_2 := kb_ hk BK_2 NB_6
        replace HK := kt_ HK hk
        replace HB := a_ hb
        replace HI_1 := a_ hi
        clear hb hk hi
        refine hK.out _ _ trivial (fun hHeld => ?_)
        clear hK K
        refine nop_ ?_
        exact nrm_ (hJ_5 (gb_2) _ ⟨bk_ BK_1, bk_ BK_2, GW_2.out, GE_2.out, NB_5.out, NB_6.out, NB_3.out, NB_4.out, HI_1.out, HK.out, HB.out⟩)
      ·skip
       rintro _ w_5 ⟨h_1, h_2, h_3, h_4⟩
       replace BK_1 := a_ h_1
       replace HI_1 := a_ h_2
       replace HK := a_ h_3
       replace HB := a_ h_4
       clear h_1 h_2 h_3 h_4
       refine nrn_ ?_
       refine two_ (i := 11) (j := 17) (Ni := some 15) (Nj := some 3) #[true, true, true, true, true, true, true, true, true, true, true, true, true, true, true, false, false, false, false] #[true, true, true, true, true, true, true, true, true, true, true, false, true, true, true, false, false, true, false] rfl rfl rfl rfl (two_of HT_.out (by kernel_rfl)) (by decide) (by decide) (fun K hK => ?_) (fun K hK => ?_)
       ·skip
        refine goes_ Try.func87 (by kernel_rfl) rfl #[.pointer (some ⟨g, 0, none⟩)] (by rfl) rfl rfl (ar_) ?_
        with_reducible refine (wal_Taker_Ints.calls _ g _ _ _ _ _ w0 _ ?side1 ?side2 A_6.out).mono ?_
        (case side1 => exact HI_1.out)
        (case side2 => exact HB.out)
        rintro e w_6 ⟨v_1, rfl, ho_1, hi, hb, hk⟩
        refine ⟨_, rfl, ?_⟩
        replace BK_1 := kb_ hk BK_1 NB_2
        have HO_1 := a_ (Kd.R_lower ho_1 (keep_size (w := w) (g := g) (row := none) HK.out))
        replace HK := kt_ HK hk
        replace HB := a_ hb
        replace HI_1 := a_ hi
        clear hb hk hi ho_1
        refine hK.out _ _ trivial (fun hHeld => ?_)
        clear hK K
        refine nop_ ?_
        exact nrm_ (hJ_4 (v_1) _ ⟨rq_ HO_1.out, bk_ BK_1, HI_1.out, HK.out, HB.out⟩)
       ·skip
        refine box_step ?hg (N := 3) ?hd (cs := #[.int .u64 0, .int .u64 0, .slice none 0 0, .string (⟨#[]⟩ : ByteArray)]) (t := 48) ?hr ?_; (case hd => rfl); (case hg => rfl); (case hr => first | (go_simp; done) | (go_simp; rfl))
        intro gb_2 hg w_6 hbox hb
        replace HB := a_ (below_step HB.out hb)
        have BK_2 := a_ hbox
        have GW_2 := a_ ((by rw [hg]; exact (keep_size (w := w) (g := g) (row := none) HK.out) : w.heap.size ≤ gb_2))
        have GE_2 := a_ ((Nat.le_trans HW_1.out (by rw [hg]; exact (keep_size (w := w) (g := g) (row := none) HK.out) : w.heap.size ≤ gb_2) : w0.heap.size ≤ gb_2))
        replace HK := a_ (KeepBut.trans HK.out (KeepBut.of_below hb g none) (.inl rfl))
        have NB_3 := nB_ hg BK_1
        have NB_4 := nC_ hg BK_1
        replace BK_1 := bB_ BK_1 hb
        have NB_5 := a_ ((by rw [hg]; exact Nat.ne_of_lt (IsS79.lt HI_1.out) : g ≠ gb_2))
        have NB_6 := a_ ((by rw [hg]; exact Nat.ne_of_gt (IsS79.lt HI_1.out) : gb_2 ≠ g))
        replace HI_1 := a_ (IsS79.below HI_1.out hb)
        clear hb hbox hg
        refine hK.out _ _ trivial (fun hHeld => ?_)
        clear hK K
        refine nop_ ?_
        exact nrm_ (hJ_5 (gb_2) _ ⟨bk_ BK_1, bk_ BK_2, GW_2.out, GE_2.out, NB_5.out, NB_6.out, NB_3.out, NB_4.out, HI_1.out, HK.out, HB.out⟩)
     ·skip
      rintro gb_2 w_6 ⟨h_1, h_2, h_3, h_4, h_5, h_6, h_7, h_8, h_9, h_10, h_11⟩
      replace BK_1 := a_ h_1
      have BK_2 := a_ h_2
      have GW_2 := a_ h_3
      have GE_2 := a_ h_4
      have NB_5 := a_ h_5
      have NB_6 := a_ h_6
      have NB_3 := a_ h_7
      have NB_4 := a_ h_8
      replace HI_1 := a_ h_9
      replace HK := a_ h_10
      replace HB := a_ h_11
      clear h_1 h_2 h_3 h_4 h_5 h_6 h_7 h_8 h_9 h_10 h_11
      refine nrn_ ?_
      refine on_ HT_ 11 (some 15) (fun K hK => ?_)
      refine goes_ Try.func87 (by kernel_rfl) rfl #[.pointer (some ⟨g, 0, none⟩)] (by rfl) rfl rfl (ar_) ?_
      with_reducible refine (wal_Taker_Ints.calls _ g _ _ _ _ _ w0 _ ?side1 ?side2 A_6.out).mono ?_
      (case side1 => exact HI_1.out)
      (case side2 => exact HB.out)
      rintro e w_7 ⟨v_1, rfl, ho_1, hi, hb, hk⟩
      refine ⟨_, rfl, ?_⟩
      replace BK_1 := kb_ hk BK_1 NB_2
      replace BK_2 := kb_ hk BK_2 NB_6
      have HO_1 := a_ (Kd.R_lower ho_1 (keep_size (w := w) (g := g) (row := none) HK.out))
      replace HK := kt_ HK hk
      replace HB := a_ hb
      replace HI_1 := a_ hi
      clear hb hk hi ho_1
      refine hK.out _ _ trivial (fun hHeld => ?_)
      clear hK K
      refine nop_ ?_
      exact nrm_ (hJ_3 (v_1, gb_2) _ ⟨rq_ HO_1.out, bk_ BK_1, bk_ BK_2, GW_2.out, GE_2.out, NB_5.out, NB_6.out, NB_3.out, NB_4.out, HI_1.out, HK.out, HB.out⟩)
    ·skip
     rintro v_1 w_6 ⟨h_1, h_2, h_3, h_4, h_5⟩
     have HO_1 := a_ h_1
     replace BK_1 := a_ h_2
     replace HI_1 := a_ h_3
     replace HK := a_ h_4
     replace HB := a_ h_5
     clear h_1 h_2 h_3 h_4 h_5
     refine nrn_ ?_
     refine two_ (i := 15) (j := 17) (Ni := some 19) (Nj := some 3) #[true, true, true, true, true, true, true, true, true, true, true, true, true, true, true, true, false, false, false] #[true, true, true, true, true, true, true, true, true, true, true, true, true, true, true, false, false, true, false] rfl rfl rfl rfl (two_of HT_.out (by kernel_rfl)) (by decide) (by decide) (fun K hK => ?_) (fun K hK => ?_)
     ·skip
      refine goes_ Try.func88 (by kernel_rfl) rfl #[.pointer (some ⟨g, 0, none⟩)] (by rfl) rfl rfl (ar_) ?_
      with_reducible refine (wal_Taker_Text.calls _ g _ _ _ _ _ w0 _ ?side1 ?side2 A_8.out).mono ?_
      (case side1 => exact HI_1.out)
      (case side2 => exact HB.out)
      rintro e w_7 ⟨rfl, hi, hb, hk⟩
      refine ⟨_, rfl, ?_⟩
      replace BK_1 := kb_ hk BK_1 NB_2
      replace HO_1 := a_ (Kd.R_mono (Kd.R_keep (IsS79.apart HI_1.out (by refine rq_ ?_; exact HO_1.out) (by decide)) hk (fun _ h => h.2)) (fun _ h => h.1))
      replace HK := kt_ HK hk
      replace HB := a_ hb
      replace HI_1 := a_ hi
      clear hb hk hi
      obtain ⟨Ao_1, co_1, eo_1⟩ := Kd.R_slice HO_1.out
      (first | subst eo_1 | (injection eo_1 with f1_ f2_ f3_; have f_1 := f1_.symm; have f_2 := f3_.symm; clear f1_ f2_ f3_; subst f_1; subst f_2))
      refine hK.out _ _ trivial (fun hHeld => ?_)
      clear hK K
      refine nop_ ?_
      refine pu_ HT_ 16 (some 20) ?_
      exact nrm_ (hJ_2 (.slice Ao_1 t_7.length co_1) _ ⟨rq_ HO_1.out, bk_ BK_1, HI_1.out, HK.out, HB.out⟩)
     ·skip
      refine box_step ?hg (N := 3) ?hd (cs := #[.int .u64 0, .int .u64 0, .slice none 0 0, .string (⟨#[]⟩ : ByteArray)]) (t := 48) ?hr ?_; (case hd => rfl); (case hg => rfl); (case hr => first | (go_simp; done) | (go_simp; rfl))
      intro gb_2 hg w_7 hbox hb
      replace HO_1 := rb_ HO_1 hb
      replace HB := a_ (below_step HB.out hb)
      have BK_2 := a_ hbox
      have GW_2 := a_ ((by rw [hg]; exact (keep_size (w := w) (g := g) (row := none) HK.out) : w.heap.size ≤ gb_2))
      have GE_2 := a_ ((Nat.le_trans HW_1.out (by rw [hg]; exact (keep_size (w := w) (g := g) (row := none) HK.out) : w.heap.size ≤ gb_2) : w0.heap.size ≤ gb_2))
      replace HK := a_ (KeepBut.trans HK.out (KeepBut.of_below hb g none) (.inl rfl))
      have NB_3 := nB_ hg BK_1
      have NB_4 := nC_ hg BK_1
      replace BK_1 := bB_ BK_1 hb
      have NB_5 := a_ ((by rw [hg]; exact Nat.ne_of_lt (IsS79.lt HI_1.out) : g ≠ gb_2))
      have NB_6 := a_ ((by rw [hg]; exact Nat.ne_of_gt (IsS79.lt HI_1.out) : gb_2 ≠ g))
      replace HI_1 := a_ (IsS79.below HI_1.out hb)
      clear hb hbox hg
      refine hK.out _ _ trivial (fun hHeld => ?_)
      clear hK K
      refine nop_ ?_
      exact nrm_ (hJ_3 (v_1, gb_2) _ ⟨rq_ HO_1.out, bk_ BK_1, bk_ BK_2, GW_2.out, GE_2.out, NB_5.out, NB_6.out, NB_3.out, NB_4.out, HI_1.out, HK.out, HB.out⟩)
   ·skip
    rintro ⟨v_1, gb_2⟩ w_7 ⟨h_1, h_2, h_3, h_4, h_5, h_6, h_7, h_8, h_9, h_10, h_11, h_12⟩
    have HO_1 := a_ h_1
    replace BK_1 := a_ h_2
    have BK_2 := a_ h_3
    have GW_2 := a_ h_4
    have GE_2 := a_ h_5
    have NB_5 := a_ h_6
    have NB_6 := a_ h_7
    have NB_3 := a_ h_8
    have NB_4 := a_ h_9
    replace HI_1 := a_ h_10
    replace HK := a_ h_11
    replace HB := a_ h_12
    clear h_1 h_2 h_3 h_4 h_5 h_6 h_7 h_8 h_9 h_10 h_11 h_12
    refine nrn_ ?_
    refine on_ HT_ 15 (some 19) (fun K hK => ?_)
    refine goes_ Try.func88 (by kernel_rfl) rfl #[.pointer (some ⟨g, 0, none⟩)] (by rfl) rfl rfl (ar_) ?_
    with_reducible refine (wal_Taker_Text.calls _ g _ _ _ _ _ w0 _ ?side1 ?side2 A_8.out).mono ?_
    (case side1 => exact HI_1.out)
    (case side2 => exact HB.out)
    rintro e w_8 ⟨rfl, hi, hb, hk⟩
    refine ⟨_, rfl, ?_⟩
    replace BK_1 := kb_ hk BK_1 NB_2
    replace HO_1 := a_ (Kd.R_mono (Kd.R_keep (IsS79.apart HI_1.out (by refine rq_ ?_; exact HO_1.out) (by decide)) hk (fun _ h => h.2)) (fun _ h => h.1))
    replace BK_2 := kb_ hk BK_2 NB_6
    replace HK := kt_ HK hk
    replace HB := a_ hb
    replace HI_1 := a_ hi
    clear hb hk hi
    obtain ⟨Ao_2, co_2, eo_2⟩ := Kd.R_slice HO_1.out
    (first | subst eo_2 | (injection eo_2 with f1_ f2_ f3_; have f_1 := f1_.symm; have f_2 := f3_.symm; clear f1_ f2_ f3_; subst f_1; subst f_2))
    refine hK.out _ _ trivial (fun hHeld => ?_)
    clear hK K
    refine nop_ ?_
    refine pu_ HT_ 16 (some 20) ?_
    exact nrm_ (hJ_1 (.slice Ao_2 t_7.length co_2, gb_2) _ ⟨rq_ HO_1.out, bk_ BK_1, bk_ BK_2, GW_2.out, GE_2.out, NB_5.out, NB_6.out, NB_3.out, NB_4.out, HI_1.out, HK.out, HB.out⟩)
  ·skip
   rintro v_1 w_8 ⟨h_1, h_2, h_3, h_4, h_5⟩
   have HO_1 := a_ h_1
   replace BK_1 := a_ h_2
   replace HI_1 := a_ h_3
   replace HK := a_ h_4
   replace HB := a_ h_5
   clear h_1 h_2 h_3 h_4 h_5
   obtain ⟨Ao_2, co_2, eo_2⟩ := Kd.R_slice HO_1.out
   (first | subst eo_2 | (injection eo_2 with f1_ f2_ f3_; have f_1 := f1_.symm; have f_2 := f3_.symm; clear f1_ f2_ f3_; subst f_1; subst f_2))
   refine nrn_ ?_
   refine on_ HT_ 17 (some 3) (fun K hK => ?_)
   refine box_step ?hg (N := 3) ?hd (cs := #[.int .u64 0, .int .u64 0, .slice none 0 0, .string (⟨#[]⟩ : ByteArray)]) (t := 48) ?hr ?_; (case hd => rfl); (case hg => rfl); (case hr => first | (go_simp; done) | (go_simp; rfl))
   intro gb_2 hg w_9 hbox hb
   replace HO_1 := rb_ HO_1 hb
   replace HB := a_ (below_step HB.out hb)
   have BK_2 := a_ hbox
   have GW_2 := a_ ((by rw [hg]; exact (keep_size (w := w) (g := g) (row := none) HK.out) : w.heap.size ≤ gb_2))
   have GE_2 := a_ ((Nat.le_trans HW_1.out (by rw [hg]; exact (keep_size (w := w) (g := g) (row := none) HK.out) : w.heap.size ≤ gb_2) : w0.heap.size ≤ gb_2))
   replace HK := a_ (KeepBut.trans HK.out (KeepBut.of_below hb g none) (.inl rfl))
   have NB_3 := nB_ hg BK_1
   have NB_4 := nC_ hg BK_1
   replace BK_1 := bB_ BK_1 hb
   have NB_5 := a_ ((by rw [hg]; exact Nat.ne_of_lt (IsS79.lt HI_1.out) : g ≠ gb_2))
   have NB_6 := a_ ((by rw [hg]; exact Nat.ne_of_gt (IsS79.lt HI_1.out) : gb_2 ≠ g))
   replace HI_1 := a_ (IsS79.below HI_1.out hb)
   clear hb hbox hg
   refine hK.out _ _ trivial (fun hHeld => ?_)
   clear hK K
   refine nop_ ?_
   exact nrm_ (hJ_1 (.slice Ao_2 t_7.length co_2, gb_2) _ ⟨rq_ HO_1.out, bk_ BK_1, bk_ BK_2, GW_2.out, GE_2.out, NB_5.out, NB_6.out, NB_3.out, NB_4.out, HI_1.out, HK.out, HB.out⟩)
 rintro ⟨v_1, gb_2⟩ w_10 ⟨h_1, h_2, h_3, h_4, h_5, h_6, h_7, h_8, h_9, h_10, h_11, h_12⟩
 have HO_1 := a_ h_1
 replace BK_1 := a_ h_2
 have BK_2 := a_ h_3
 have GW_2 := a_ h_4
 have GE_2 := a_ h_5
 have NB_5 := a_ h_6
 have NB_6 := a_ h_7
 have NB_3 := a_ h_8
 have NB_4 := a_ h_9
 replace HI_1 := a_ h_10
 replace HK := a_ h_11
 replace HB := a_ h_12
 clear h_1 h_2 h_3 h_4 h_5 h_6 h_7 h_8 h_9 h_10 h_11 h_12
 obtain ⟨Ao_3, co_3, eo_3⟩ := Kd.R_slice HO_1.out
 (first | subst eo_3 | (injection eo_3 with f1_ f2_ f3_; have f_1 := f1_.symm; have f_2 := f3_.symm; clear f1_ f2_ f3_; subst f_1; subst f_2))
 refine nrn_ ?_
 refine on_ HT_ 18 (none) (fun K hK => ?_)
 have hs_1 : w_10.cell? ⟨gb_2, 0, none⟩ = some (.int .u64 0) := (blk_cell BK_2.out 0).trans rfl
 have hfs_1 := blk_frozen BK_2.out 0
 have hns_1 := NB_3.out
 have hms_1 := NB_4.out
 have hs_2 : w_10.cell? ⟨gb_2, 1, none⟩ = some (.int .u64 0) := (blk_cell BK_2.out 1).trans rfl
 have hfs_2 := blk_frozen BK_2.out 1
 have hns_2 := NB_3.out
 have hms_2 := NB_4.out
 have hs_3 : w_10.cell? ⟨gb_2, 2, none⟩ = some (.slice none 0 0) := (blk_cell BK_2.out 2).trans rfl
 have hfs_3 := blk_frozen BK_2.out 2
 have hns_3 := NB_3.out
 have hms_3 := NB_4.out
 have hs_4 : w_10.cell? ⟨gb_2, 3, none⟩ = some (.string (⟨#[]⟩ : ByteArray)) := (blk_cell BK_2.out 3).trans rfl
 have hfs_4 := blk_frozen BK_2.out 3
 have hns_4 := NB_3.out
 have hms_4 := NB_4.out
 refine skip_ (w1 := ?_) (by rfl) rfl ?_ ?_
 rotate_left
 ·go_simp
  rfl
 refine hK.out _ _ trivial (fun hHeld => ?_)
 clear hK K
 refine done_ (done_of HT_.out (by kernel_rfl)) ?_
 obtain ⟨Tz_1, hTz_1, HGz_1, hgz_1⟩ := HI_1.out
 have hcz_1 := cellS79_0 HGz_1
 have hcz_2 := cellS79_1 HGz_1
 have hfz_1 := blk_frozen HGz_1 0
 have hfz_2 := blk_frozen HGz_1 1
 clear HGz_1 hgz_1
 have := NB_4.out
 have := NB_3.out
 have := NB_6.out
 have := NB_5.out
 obtain ⟨_, _, _, _, _, _, _, _⟩ := c4_ BK_2
 by_cases c_1 : t_12 = true
 focus
  subst c_1
  rw [if_pos rfl] at H
  simp only [Option.some.injEq, Prod.mk.injEq] at H
  obtain ⟨rfl, rfl, rfl, rfl, rfl, rfl⟩ := H
  have L0_ := trivial
 rotate_left
 replace c_1 := Bool.eq_false_iff.mpr c_1
 subst c_1
 rw [if_neg (show ¬ (false = true) by decide)] at H
 obtain ⟨t_13, A_10, H⟩ := ob_ H
 try dsimp only at H
 simp only [Option.some.injEq, Prod.mk.injEq] at H
 obtain ⟨rfl, rfl, rfl, rfl, rfl, rfl⟩ := H
 have L1_ := trivial
 all_goals
  first
  | (have _ := L0_
     have := NB_2.out
     have := NB_1.out
     obtain ⟨_, _, _, _, _, _, _, _⟩ := c4_ BK_1
     try go_wp2
     refine bodyPost_ret (results_cell_row rfl _ _ gb_1 48 #[.int .u64 t_1, .int .u64 t_4, .slice Ao_3 t_7.length co_3, .string t_10] (0, 0) _ rfl (bp_2 BK_1 NB_2 NB_3) Try.underlying48 rfl (by kernel_rfl)) rfl ?_
     exact ⟨_, fz_, by refine rq_ ?_; exact Kd.R_mono (Kd.R_far (p := ⟨gb_1, 3, none⟩) (Kd.R_far (p := ⟨gb_1, 2, none⟩) (Kd.R_far (p := ⟨gb_1, 1, none⟩) (Kd.R_far (p := ⟨gb_1, 0, none⟩) (Kd.R_far (p := ⟨g, 1, none⟩) (Kd.R_far (p := ⟨gb_2, 3, none⟩) (Kd.R_far (p := ⟨gb_2, 2, none⟩) (Kd.R_far (p := ⟨gb_2, 1, none⟩) (Kd.R_far (p := ⟨gb_2, 0, none⟩) (Kd.R_types (IsS79.apart HI_1.out (Kd.R_types HO_1.out BK_2.out (by decide)) (by decide)) BK_1.out (by decide)) (fun _ hk => hk.1.1.2) (.int .u64 t_1)) (fun _ hk => hk.1.1.2) (.int .u64 t_4)) (fun _ hk => hk.1.1.2) (.slice Ao_3 t_7.length co_3)) (fun _ hk => hk.1.1.2) (.string t_10)) (fun _ hk => hk.1.2) (.bool true)) (fun _ hk => hk.2) (.int .u64 t_1)) (fun _ hk => hk.2) (.int .u64 t_4)) (fun _ hk => hk.2) (.slice Ao_3 t_7.length co_3)) (fun _ hk => hk.2) (.string t_10)) (fun _ hk => trivial), hi79c_ HI_1 NB_1 NB_5, hb3_ HB (IsS79.ge HI_1.out) GE_1.out GE_2.out, hk2_ HK GW_1 GW_2⟩)
  | (have _ := L1_
     try go_wp2_with (go_at_call 31; (with_reducible refine (snap_Check.calls _ _ _ _ _ _ _ _ _ ?side1 ?side2 A_10.out).mono ?_); (case side1 => refine (Kd.R_reads' (e := 3) (base := w.heap.size) (ok := fun k_ => True) (n := t_7.length) (c := co_3) ?_).2.2; exact (by refine rq_ ?_; exact (rf1_ HO_1 BK_2))); (case side2 => exact (Kd.R_reads' HO_1.out).2.1); rintro e w_11 ⟨rfl, hb⟩; replace HO_1 := a_ (Kd.R_below (by refine rq_ ?_; exact (rf1_ HO_1 BK_2)) hb); replace BK_1 := bw_1 #[.int .u64 0, .int .u64 0, .slice none 0 0, .string (⟨#[]⟩ : ByteArray)] BK_1 NB_3 hb; replace BK_2 := bw_0 #[.int .u64 t_1, .int .u64 t_4, .slice Ao_3 t_7.length co_3, .string t_10] BK_2 hb; replace HK := a_ (KeepBut.trans (hk2_ HK GW_1 GW_2) (KeepBut.of_below hb g none) (.inl rfl)); replace HB := a_ (below_step (hb3_ HB (IsS79.ge HI_1.out) GE_1.out GE_2.out) hb); replace HI_1 := a_ (IsS79.below (show IsS79 w0 ((((w_10.setCell ⟨gb_2, 0, none⟩ (.int .u64 t_1)).setCell ⟨gb_2, 1, none⟩ (.int .u64 t_4)).setCell ⟨gb_2, 2, none⟩ (.slice Ao_3 t_7.length co_3)).setCell ⟨gb_2, 3, none⟩ (.string t_10)) g t_11 false from hi79c_ HI_1 NB_1 NB_5) hb); (try clear hb); obtain ⟨Tz_2, hTz_2, HGz_2, hgz_2⟩ := HI_1.out; have hcz_7 := cellS79_0 HGz_2; have hcz_8 := cellS79_1 HGz_2; have hfz_7 := blk_frozen HGz_2 0; have hfz_8 := blk_frozen HGz_2 1; clear HGz_2 hgz_2; obtain ⟨_, _, _, _, _, _, _, _⟩ := c4_ BK_2; have := NB_2.out; have := NB_1.out; obtain ⟨_, _, _, _, _, _, _, _⟩ := c4_ BK_1)
     refine bodyPost_ret (results_cell_row rfl _ _ gb_1 48 #[.int .u64 t_1, .int .u64 t_4, .slice Ao_3 t_7.length co_3, .string t_10] (0, 0) _ rfl (bp_1 BK_1 NB_2) Try.underlying48 rfl (by kernel_rfl)) rfl ?_
     exact ⟨_, fz_, by refine rq_ ?_; exact Kd.R_mono (Kd.R_far (p := ⟨gb_1, 3, none⟩) (Kd.R_far (p := ⟨gb_1, 2, none⟩) (Kd.R_far (p := ⟨gb_1, 1, none⟩) (Kd.R_far (p := ⟨gb_1, 0, none⟩) (Kd.R_far (p := ⟨g, 1, none⟩) (Kd.R_types (IsS79.apart HI_1.out HO_1.out (by decide)) BK_1.out (by decide)) (fun _ hk => hk.1.2) (.bool (t_13 != 0))) (fun _ hk => hk.2) (.int .u64 t_1)) (fun _ hk => hk.2) (.int .u64 t_4)) (fun _ hk => hk.2) (.slice Ao_3 t_7.length co_3)) (fun _ hk => hk.2) (.string t_10)) (fun _ hk => trivial), hi79c_ HI_1 NB_1 NB_5, hb3_ HB (IsS79.ge HI_1.out) GE_1.out GE_2.out, hk2_ HK GW_1 GW_2⟩)
def snap_Decode.f (k : Nat) (a0 : ByteArray) : Option (Int × Int × List Int × ByteArray × Int) := (snap_Taker_Snap.f k a0 false).bind fun bt202 => (if bt202.2.2.2.2.2 = true then (some (0, 0, ([] : List Int), (⟨#[]⟩ : ByteArray), 4)) else (if bt202.2.2.2.2.1.toList = ([] : List UInt8) then (some (bt202.1, bt202.2.1, bt202.2.2.1, bt202.2.2.2.1, 0)) else (some (0, 0, ([] : List Int), (⟨#[]⟩ : ByteArray), 4))))
theorem snap_Decode.mono : ∀ a0 k, LeO (snap_Decode.f k a0) (snap_Decode.f (k + 1) a0) := by
 intro a0 k
 unfold snap_Decode.f
 repeat' with_reducible first | apply snap_Taker_Snap.mono | apply LeO.refl | apply LeO.none | apply LeO.ite | refine LeO.bind ?_ (fun _ => ?_)
theorem snap_Decode.calls (k : Nat) (a0 : ByteArray) (r1 : Int) (r2 : Int) (r3 : List Int) (r4 : ByteArray) (r5 : Int) (w : World) (h : snap_Decode.f k a0 = some (r1, r2, r3, r4, r5)) :
  Calls Try.prog 27 #[.string a0] w fun e w' => ∃ v2_ : Value, e = .returned (.tuple #[.agg #[.int .u64 r1, .int .u64 r2, v2_, .string r4], .int .i64 r5]) ∧ Kd.R (Kd.int .i64) 3 w' w.heap.size (fun _ => True) v2_ r3 ∧ Below w.heap.size w w' := by
 have hu_1 := Try.underlying48
 have hu_2 := Try.underlying79
 have hu_3 := Try.underlying81
 have HB := a_ (Below.refl w.heap.size w)
 have H := h
 unfold snap_Decode.f at H
 clear h
 obtain ⟨⟨t_1, t_2, t_3, t_4, t_5, t_6⟩, A_2, H⟩ := ob_ H
 try dsimp only at H
 by_cases c_1 : t_6 = true
 focus
  subst c_1
  rw [if_pos rfl] at H
  obtain ⟨rfl, rfl, rfl, rfl, rfl⟩ := so5_ H
  have L0_ := trivial
 rotate_left
 focus
  replace c_1 := Bool.eq_false_iff.mpr c_1
  subst c_1
  rw [if_neg (show ¬ (false = true) by decide)] at H
  by_cases c_2 : t_5.toList = ([] : List UInt8)
  rotate_left
  focus
   rw [if_neg c_2] at H
   obtain ⟨c_3, c_4⟩ := bn_ c_2
   obtain ⟨rfl, rfl, rfl, rfl, rfl⟩ := so5_ H
   have L1_ := trivial
  rotate_left
  rw [if_pos c_2] at H
  obtain ⟨c_3, c_4⟩ := be_ c_2
  clear c_2
  obtain ⟨rfl, rfl, rfl, rfl, rfl⟩ := so5_ H
  have L2_ := trivial
 all_goals
  go_enter Try.func27, Try.ntmps27
  first
  | (have _ := L0_
     go_wp2_with (first | ((with_reducible refine gd_ 2 ?_); refine bz_ 2 #[.int .u64 0, .int .u64 0, .slice none 0 0, .string (⟨#[]⟩ : ByteArray)] 48 ?_; intro gb_1 hg w_1 BK_1 hb; have GE_1 := a_ (bs_0 hg HB); replace HB := hB_ (bl_ HB) hb; clear hb hg) | ((with_reducible refine gd_ 9 ?_); refine bz_ 9 #[.string a0, .bool false] 81 ?_; intro gb_2 hg w_2 BK_2 hb; have GE_2 := a_ (bs_1 hg HB GE_1); replace HB := hB_ (bl_1 HB GE_1) hb; have NB_1 := nB_ hg BK_1; have NB_2 := nC_ hg BK_1; replace BK_1 := bB_ BK_1 hb; clear hb hg) | ((with_reducible refine gk_ 53 ?_); refine gl_ (some 11) Try.func53 #[.pointer (some ⟨gb_2, 0, none⟩)] ?_; (with_reducible refine (snap_Taker_Snap.calls _ gb_2 _ _ _ _ _ _ _ _ w _ ?side1 ?side2 A_2.out).mono ?_); (case side1 => exact ⟨81, by decide, (bk_ BK_2), GE_2.out⟩); (case side2 => exact hb2_ HB GE_1.out GE_2.out); rintro e w_3 ⟨v_1, rfl, ho_1, hi, hb, hk⟩; refine ⟨_, rfl, ?_⟩; replace BK_1 := kc_ hk BK_1 NB_1; have HO_1 := a_ (Kd.R_lower ho_1 (below_size (bl_2 HB GE_1 GE_2))); replace HB := a_ (hb); have HI_1 := a_ (hi); (try clear hb); (try clear ho_1)) | ((with_reducible refine gd_ 5 ?_); refine bz_ 5 #[.int .u64 0, .int .u64 0, .slice none 0 0, .string (⟨#[]⟩ : ByteArray)] 48 ?_; intro gb_3 hg w_4 BK_3 hb; replace HO_1 := rb_ HO_1 hb; have GE_3 := gs_2 hg HB (IsS79.ge HI_1.out) GE_1.out; replace HB := a_ (below_step (hb2_ HB (IsS79.ge HI_1.out) GE_1.out) hb); have NB_3 := nB_ hg BK_1; have NB_4 := nC_ hg BK_1; replace BK_1 := bB_ BK_1 hb; have NB_5 := a_ ((by rw [hg]; exact Nat.ne_of_lt (IsS79.lt (show IsS79 w _ gb_2 t_5 true from hi79b_ HI_1 NB_2)) : gb_2 ≠ gb_3)); have NB_6 := a_ ((by rw [hg]; exact Nat.ne_of_gt (IsS79.lt (show IsS79 w _ gb_2 t_5 true from hi79b_ HI_1 NB_2)) : gb_3 ≠ gb_2)); replace HI_1 := a_ (IsS79.below (hi79b_ HI_1 NB_2) hb); clear hb hg; have := NB_4.out; have := NB_3.out; have := NB_6.out; have := NB_5.out; obtain ⟨_, _, _, _, _, _, _, _⟩ := c4_ BK_3; obtain ⟨Ao_1, co_1, eo_1⟩ := Kd.R_slice HO_1.out; subst eo_1; obtain ⟨Tz_1, hTz_1, HGz_1, hgz_1⟩ := HI_1.out; have hcz_5 := cellS79_0 HGz_1; have hcz_6 := cellS79_1 HGz_1; have hfz_5 := blk_frozen HGz_1 0; have hfz_6 := blk_frozen HGz_1 1; clear HGz_1 hgz_1; have := NB_1.out; have := NB_2.out; obtain ⟨_, _, _, _, _, _, _, _⟩ := c4_ BK_1))
     refine bodyPost_ret (results_ct rfl _ _ gb_1 48 #[.int .u64 0, .int .u64 0, .slice none 0 0, .string (⟨#[]⟩ : ByteArray)] (0, 0) _ rfl (bp_1 BK_1 NB_3) Try.underlying48 rfl (by kernel_rfl)) rfl ?_
     exact ⟨_, fz_, nl_, hb3_ HB (IsS79.ge HI_1.out) GE_1.out GE_3.out⟩)
  | (have _ := L1_
     go_wp2_with (first | ((with_reducible refine gd_ 2 ?_); refine bz_ 2 #[.int .u64 0, .int .u64 0, .slice none 0 0, .string (⟨#[]⟩ : ByteArray)] 48 ?_; intro gb_1 hg w_1 BK_1 hb; have GE_1 := a_ (bs_0 hg HB); replace HB := hB_ (bl_ HB) hb; clear hb hg) | ((with_reducible refine gd_ 9 ?_); refine bz_ 9 #[.string a0, .bool false] 81 ?_; intro gb_2 hg w_2 BK_2 hb; have GE_2 := a_ (bs_1 hg HB GE_1); replace HB := hB_ (bl_1 HB GE_1) hb; have NB_1 := nB_ hg BK_1; have NB_2 := nC_ hg BK_1; replace BK_1 := bB_ BK_1 hb; clear hb hg) | ((with_reducible refine gk_ 53 ?_); refine gl_ (some 11) Try.func53 #[.pointer (some ⟨gb_2, 0, none⟩)] ?_; (with_reducible refine (snap_Taker_Snap.calls _ gb_2 _ _ _ _ _ _ _ _ w _ ?side1 ?side2 A_2.out).mono ?_); (case side1 => exact ⟨81, by decide, (bk_ BK_2), GE_2.out⟩); (case side2 => exact hb2_ HB GE_1.out GE_2.out); rintro e w_3 ⟨v_1, rfl, ho_1, hi, hb, hk⟩; refine ⟨_, rfl, ?_⟩; replace BK_1 := kc_ hk BK_1 NB_1; have HO_1 := a_ (Kd.R_lower ho_1 (below_size (bl_2 HB GE_1 GE_2))); replace HB := a_ (hb); have HI_1 := a_ (hi); (try clear hb); (try clear ho_1)) | ((with_reducible refine gd_ 5 ?_); refine bz_ 5 #[.int .u64 0, .int .u64 0, .slice none 0 0, .string (⟨#[]⟩ : ByteArray)] 48 ?_; intro gb_3 hg w_4 BK_3 hb; replace HO_1 := rb_ HO_1 hb; have GE_3 := gs_2 hg HB (IsS79.ge HI_1.out) GE_1.out; replace HB := a_ (below_step (hb2_ HB (IsS79.ge HI_1.out) GE_1.out) hb); have NB_3 := nB_ hg BK_1; have NB_4 := nC_ hg BK_1; replace BK_1 := bB_ BK_1 hb; have NB_5 := a_ ((by rw [hg]; exact Nat.ne_of_lt (IsS79.lt (show IsS79 w _ gb_2 t_5 false from hi79b_ HI_1 NB_2)) : gb_2 ≠ gb_3)); have NB_6 := a_ ((by rw [hg]; exact Nat.ne_of_gt (IsS79.lt (show IsS79 w _ gb_2 t_5 false from hi79b_ HI_1 NB_2)) : gb_3 ≠ gb_2)); replace HI_1 := a_ (IsS79.below (hi79b_ HI_1 NB_2) hb); clear hb hg; have := NB_4.out; have := NB_3.out; have := NB_6.out; have := NB_5.out; obtain ⟨_, _, _, _, _, _, _, _⟩ := c4_ BK_3; obtain ⟨Ao_1, co_1, eo_1⟩ := Kd.R_slice HO_1.out; subst eo_1; obtain ⟨Tz_1, hTz_1, HGz_1, hgz_1⟩ := HI_1.out; have hcz_5 := cellS79_0 HGz_1; have hcz_6 := cellS79_1 HGz_1; have hfz_5 := blk_frozen HGz_1 0; have hfz_6 := blk_frozen HGz_1 1; clear HGz_1 hgz_1; have := NB_1.out; have := NB_2.out; obtain ⟨_, _, _, _, _, _, _, _⟩ := c4_ BK_1))
     refine bodyPost_ret (results_ct rfl _ _ gb_1 48 #[.int .u64 0, .int .u64 0, .slice none 0 0, .string (⟨#[]⟩ : ByteArray)] (0, 0) _ rfl (bp_1 BK_1 NB_3) Try.underlying48 rfl (by kernel_rfl)) rfl ?_
     exact ⟨_, fz_, nl_, hb3_ HB (IsS79.ge HI_1.out) GE_1.out GE_3.out⟩)
  | (have _ := L2_
     go_wp2_with (first | ((with_reducible refine gd_ 2 ?_); refine bz_ 2 #[.int .u64 0, .int .u64 0, .slice none 0 0, .string (⟨#[]⟩ : ByteArray)] 48 ?_; intro gb_1 hg w_1 BK_1 hb; have GE_1 := a_ (bs_0 hg HB); replace HB := hB_ (bl_ HB) hb; clear hb hg) | ((with_reducible refine gd_ 9 ?_); refine bz_ 9 #[.string a0, .bool false] 81 ?_; intro gb_2 hg w_2 BK_2 hb; have GE_2 := a_ (bs_1 hg HB GE_1); replace HB := hB_ (bl_1 HB GE_1) hb; have NB_1 := nB_ hg BK_1; have NB_2 := nC_ hg BK_1; replace BK_1 := bB_ BK_1 hb; clear hb hg) | ((with_reducible refine gk_ 53 ?_); refine gl_ (some 11) Try.func53 #[.pointer (some ⟨gb_2, 0, none⟩)] ?_; (with_reducible refine (snap_Taker_Snap.calls _ gb_2 _ _ _ _ _ _ _ _ w _ ?side1 ?side2 A_2.out).mono ?_); (case side1 => exact ⟨81, by decide, (bk_ BK_2), GE_2.out⟩); (case side2 => exact hb2_ HB GE_1.out GE_2.out); rintro e w_3 ⟨v_1, rfl, ho_1, hi, hb, hk⟩; refine ⟨_, rfl, ?_⟩; replace BK_1 := kc_ hk BK_1 NB_1; have HO_1 := a_ (Kd.R_lower ho_1 (below_size (bl_2 HB GE_1 GE_2))); replace HB := a_ (hb); have HI_1 := a_ (hi); (try clear hb); (try clear ho_1)) | ((with_reducible refine gd_ 5 ?_); refine bz_ 5 #[.int .u64 0, .int .u64 0, .slice none 0 0, .string (⟨#[]⟩ : ByteArray)] 48 ?_; intro gb_3 hg w_4 BK_3 hb; replace HO_1 := rb_ HO_1 hb; have GE_3 := gs_2 hg HB (IsS79.ge HI_1.out) GE_1.out; replace HB := a_ (below_step (hb2_ HB (IsS79.ge HI_1.out) GE_1.out) hb); have NB_3 := nB_ hg BK_1; have NB_4 := nC_ hg BK_1; replace BK_1 := bB_ BK_1 hb; have NB_5 := a_ ((by rw [hg]; exact Nat.ne_of_lt (IsS79.lt (show IsS79 w _ gb_2 t_5 false from hi79b_ HI_1 NB_2)) : gb_2 ≠ gb_3)); have NB_6 := a_ ((by rw [hg]; exact Nat.ne_of_gt (IsS79.lt (show IsS79 w _ gb_2 t_5 false from hi79b_ HI_1 NB_2)) : gb_3 ≠ gb_2)); replace HI_1 := a_ (IsS79.below (hi79b_ HI_1 NB_2) hb); clear hb hg; have := NB_4.out; have := NB_3.out; have := NB_6.out; have := NB_5.out; obtain ⟨_, _, _, _, _, _, _, _⟩ := c4_ BK_3; obtain ⟨Ao_1, co_1, eo_1⟩ := Kd.R_slice HO_1.out; subst eo_1; obtain ⟨Tz_1, hTz_1, HGz_1, hgz_1⟩ := HI_1.out; have hcz_5 := cellS79_0 HGz_1; have hcz_6 := cellS79_1 HGz_1; have hfz_5 := blk_frozen HGz_1 0; have hfz_6 := blk_frozen HGz_1 1; clear HGz_1 hgz_1; have := NB_1.out; have := NB_2.out; obtain ⟨_, _, _, _, _, _, _, _⟩ := c4_ BK_1))
     refine bodyPost_ret (results_ct rfl _ _ gb_1 48 #[.int .u64 t_1, .int .u64 t_2, .slice Ao_1 t_3.length co_1, .string t_4] (0, 0) _ rfl (bp_1 BK_1 NB_3) Try.underlying48 rfl (by kernel_rfl)) rfl ?_
     exact ⟨_, fz_, by refine rq_ ?_; exact rf2_ HO_1 BK_3 BK_1, hb3_ HB (IsS79.ge HI_1.out) GE_1.out GE_3.out⟩)

def pack_fixed.l0 : Nat → Int → Int → List Int → Int → Int → Option (ByteArray)
 | 0, _, _, _, _, _ => none
 | k + 1, x0, x1, x5, x10, x11 => if x11 < x10 then (if 0 ≤ (wrap64 (8 * x11)) then (if 0 ≤ (wrap64 ((wrap64 (x1 - 1)) - x11)) then (if (wrap64 ((wrap64 (x1 - 1)) - x11)) < (x5.length : Int) then (pack_fixed.l0 k x0 x1 (x5.set ((wrap64 ((wrap64 (x1 - 1)) - x11)) : Int).toNat ((shr .u64 x0 (wrap64 (8 * x11))) % 256)) x10 (wrap64 (x11 + 1))) else (none)) else (none)) else (none)) else (some (strOfNums x5))
def pack_fixed.f (k : Nat) (a0 : Int) (a1 : Int) : Option (ByteArray) := if 0 ≤ a1 then (if (a1 : Int).toNat ≤ 281474976710656 then ((some (List.replicate (a1 : Int).toNat 0 : List Int)).bind fun y211 => (pack_fixed.l0 k a0 a1 y211 (y211.length : Int) 0)) else (none)) else (none)
theorem pack_fixed.mono_l : ∀ k, (∀ y0 y1 y2 y3 y4, LeO (pack_fixed.l0 k y0 y1 y2 y3 y4) (pack_fixed.l0 (k + 1) y0 y1 y2 y3 y4))
 | 0 => fun _ _ _ _ _ r h => by simp [pack_fixed.l0] at h
 | k + 1 => by
  have ih0 := pack_fixed.mono_l k
  ·intro y0 y1 y2 y3 y4
   unfold pack_fixed.l0
   repeat' with_reducible first | apply ih0 | apply LeO.refl | apply LeO.none | apply LeO.ite | refine LeO.bind ?_ (fun _ => ?_)
theorem pack_fixed.mono : ∀ a0 a1 k, LeO (pack_fixed.f k a0 a1) (pack_fixed.f (k + 1) a0 a1) := by
 intro a0 a1 k
 have ih0 := pack_fixed.mono_l k
 unfold pack_fixed.f
 repeat' with_reducible first | apply ih0 | apply LeO.refl | apply LeO.none | apply LeO.ite | refine LeO.bind ?_ (fun _ => ?_)
theorem pack_fixed.calls (k : Nat) (a0 : Int) (a1 : Int) (r : ByteArray) (w : World) (h : pack_fixed.f k a0 a1 = some r) :
  Calls Try.prog 91 #[.int .u64 a0, .int .i64 a1] w fun e w' => e = .returned (.string r) ∧ Below w.heap.size w w' := by
 have HB := a_ (Below.refl w.heap.size w)
 have H := h
 unfold pack_fixed.f at H
 clear h
 replace H := iq_ H
 obtain ⟨c_1, H⟩ := H
 have c_2 := eq_true c_1
 have c_3 : decide (0 ≤ a1) = true := decide_eq_true c_1
 clear c_1
 replace H := iq_ H
 obtain ⟨c_4, H⟩ := H
 have c_5 := eq_true c_4
 have c_6 : decide ((a1 : Int).toNat ≤ 281474976710656) = true := decide_eq_true c_4
 clear c_4
 obtain ⟨y_1, hy_1⟩ : ∃ y_ : List Int, y_ = (List.replicate (a1 : Int).toNat 0) := ⟨_, rfl⟩
 replace H : (pack_fixed.l0 k a0 a1 y_1 (y_1.length : Int) 0) = some r := by first | (rw [hy_1]; with_reducible exact H) | (have H_1 := (Option.bind_some _ _).symm.trans H; rw [hy_1]; with_reducible exact H_1) | (have H_1 := (Option.bind_some _ _).symm.trans H; with_reducible exact H_1) | with_reducible exact H | (rw [hy_1]; exact H) | exact H
 have Ny_1 := a_ hy_1
 clear hy_1
 have H' := a_ H
 clear H
 go_enter Try.func91, Try.ntmps91
 go_wp2_with (first | ((with_reducible refine gd_ 8 ?_); refine Kd.R_make (Kd.int .u8) _ 5 rfl (N := 8) rfl 111 _ _ rfl a1 rfl rfl Try.underlying111 (.int .u8 0) 1 info5 rfl (by decide) (by omega) 0 (ok := fun _ => True) (okp := fun _ => True) rfl (fun _ hk => hk) trivial od_ (Nat.le_trans (Nat.mul_le_mul_right _ (od_ : a1.toNat ≤ 281474976710656)) (by omega)) (Below.refl _ _) (Nat.le_refl _) ?_; intro v_1 w_1 ho_1 hb hg_ hnew_; clear hg_ hnew_; (first | rw [← Ny_1.out] at ho_1 | (simp only [Int.reduceToNat] at ho_1; rw [← Ny_1.out] at ho_1)); have HO_1 := a_ (Kd.R_lower ho_1 (below_size (bl_ HB))); replace HB := hB_ (bl_ HB) hb; clear hb ho_1; obtain ⟨Ao_1, co_1, eo_1⟩ := Kd.R_slice HO_1.out; subst eo_1))
 go_loopg [11] k (fun kq v11 w' => ∃ (x5_1 : List Int) (x11_1 : Int), v11 = .int .i64 x11_1 ∧ Aside0 (pack_fixed.l0 kq a0 a1 x5_1 (y_1.length : Int) x11_1 = some r) ∧ Aside0 (kq ≤ k) ∧ Aside0 (Kd.R (Kd.int .u8) 5 w' w.heap.size (fun _ => True) (.slice Ao_1 y_1.length co_1) x5_1) ∧ Aside0 (Below w.heap.size w w'))
 case atStart => exact ⟨(y_1), (0), fz_, H', ⟨Nat.le_refl _⟩, ⟨by refine rq_ ?_; exact HO_1.out⟩, ⟨bl_ HB⟩⟩
 case round =>
  clear H'
  try clear c_1
  try clear c_2
  try clear c_3
  try clear c_4
  try clear c_5
  try clear c_6
  obtain ⟨x_1, x_2, rfl, HA, HK_1, HO_2, HB⟩ := hrel
  have hl_1 := (Kd.R_reads' HO_2.out).1
  rw [hl_1] at HO_2
  (try simp only [hl_1])
  cases gk with
  | zero => exact absurd HA.out (by simp [pack_fixed.l0])
  | succ k1 =>
   have H := HA.out
   clear HA
   simp only [pack_fixed.l0] at H
   by_cases c_7 : x_2 < (y_1.length : Int)
   rotate_left
   ·rw [if_neg c_7] at H
    have c_8 : decide (x_2 < (y_1.length : Int)) = false := decide_eq_false c_7
    (try rw [hl_1] at c_8)
    clear c_7
    obtain rfl := Option.some.inj H
    have hcv_1 := own_string (P := Try.prog) Try.underlying111 Try.underlying5 Try.underlying9 (Kd.own_of_R HO_2.out)
    go_wp2
    go_ret
    exact ⟨fz_, bl_ HB⟩
   rw [if_pos c_7] at H
   have c_8 : decide (x_2 < (y_1.length : Int)) = true := decide_eq_true c_7
   (try rw [hl_1] at c_8)
   clear c_7
   obtain ⟨ji_1, hji_1⟩ : ∃ j_ : Int, (wrap64 (8 * x_2)) = j_ := ⟨_, rfl⟩
   replace H : (if 0 ≤ (ji_1) then (if 0 ≤ (wrap64 ((wrap64 (a1 - 1)) - x_2)) then (if (wrap64 ((wrap64 (a1 - 1)) - x_2)) < (x_1.length : Int) then (pack_fixed.l0 k1 a0 a1 (x_1.set ((wrap64 ((wrap64 (a1 - 1)) - x_2)) : Int).toNat ((shr .u64 a0 (ji_1)) % 256)) (y_1.length : Int) (wrap64 (x_2 + 1))) else (none)) else (none)) else (none)) = some r := by first | (rw [hji_1] at H; exact H) | (simp only [hji_1] at H ⊢; exact H)
   have hji_2 : (IntKind.i64.wrap (8 * x_2)) = ji_1 := (i64_w _).trans hji_1
   replace H := iq_ H
   obtain ⟨c_9, H⟩ := H
   have c_10 := eq_true c_9
   have c_11 : decide (0 ≤ (ji_1)) = true := decide_eq_true c_9
   clear c_9
   obtain ⟨ji_2, hji_3⟩ : ∃ j_ : Int, (shr .u64 a0 (ji_1)) = j_ := ⟨_, rfl⟩
   replace H : (if 0 ≤ (wrap64 ((wrap64 (a1 - 1)) - x_2)) then (if (wrap64 ((wrap64 (a1 - 1)) - x_2)) < (x_1.length : Int) then (pack_fixed.l0 k1 a0 a1 (x_1.set ((wrap64 ((wrap64 (a1 - 1)) - x_2)) : Int).toNat ((ji_2) % 256)) (y_1.length : Int) (wrap64 (x_2 + 1))) else (none)) else (none)) = some r := by first | (rw [hji_3] at H; exact H) | (simp only [hji_3] at H ⊢; exact H)
   have hji_4 : (a0 / 2 ^ min (ji_1).toNat 64) = ji_2 := hji_3
   have hji_5 : (ji_1) ≤ 64 → (a0 / 2 ^ (ji_1).toNat) = ji_2 := shr_small hji_3
   obtain ⟨ji_3, hji_6⟩ : ∃ j_ : Int, (wrap64 ((wrap64 (a1 - 1)) - x_2)) = j_ := ⟨_, rfl⟩
   replace H : (if 0 ≤ (ji_3) then (if (ji_3) < (x_1.length : Int) then (pack_fixed.l0 k1 a0 a1 (x_1.set ((ji_3) : Int).toNat ((ji_2) % 256)) (y_1.length : Int) (wrap64 (x_2 + 1))) else (none)) else (none)) = some r := by first | (rw [hji_6] at H; exact H) | (simp only [hji_6] at H ⊢; exact H)
   have hji_7 : (IntKind.i64.wrap ((wrap64 (a1 - 1)) - x_2)) = ji_3 := (i64_w _).trans hji_6
   replace H := ip_ H
   obtain ⟨-, c_13, H⟩ := H
   replace H := iq_ H
   obtain ⟨c_14, H⟩ := H
   have c_15 : decide ((ji_3) < (x_1.length : Int)) = true := decide_eq_true c_14
   (try rw [hl_1] at c_15)
   clear c_14
   obtain ⟨y_2, hy_2⟩ : ∃ y_ : List Int, y_ = (x_1.set ((ji_3) : Int).toNat ((ji_2) % 256)) := ⟨_, rfl⟩
   replace H : (pack_fixed.l0 k1 a0 a1 y_2 (y_1.length : Int) (wrap64 (x_2 + 1))) = some r := by first | (rw [hy_2]; with_reducible exact H) | (have H_1 := (Option.bind_some _ _).symm.trans H; rw [hy_2]; with_reducible exact H_1) | (have H_1 := (Option.bind_some _ _).symm.trans H; with_reducible exact H_1) | with_reducible exact H | (rw [hy_2]; exact H) | exact H
   have Ny_2 := a_ hy_2
   clear hy_2
   have H' := a_ H
   clear H
   have p_1 : 0 ≤ ((ji_3) : Int) := od_
   have q_1 : ((ji_3) : Int) < ((x_1.length : Int) : Int) := od_
   obtain ⟨go_1, co_2, eo_2, gb_1, gl_1, cl_1, HG_1⟩ := Kd.R_form HO_2.out (by omega)
   (first | cases eo_2 | (injection eo_2 with ea_ en_ ec_; (first | subst ea_ | (injection ea_ with ea_; subst ea_)); subst ec_; clear en_))
   have GB_1 := a_ gb_1
   have GG_1 := a_ HG_1
   clear gb_1 gl_1 HG_1
   obtain ⟨hx_1, hf_1⟩ := Kd.R_celln 0 HO_2.out ((ji_3) : Int) p_1 q_1
   replace p_1 := eq_true p_1
   replace q_1 := eq_true q_1
   have HP_1 := Kd.R_putg HO_2.out ((ji_3) : Int) ((ji_2) % 256)
   go_wp2_with (first | ((with_reducible refine gate_store (t := 5) (p := 24) rfl ?_); refine store_event (t := 5) (p := 24) (v := ?vo_w17) (w1 := (wr.setCell ⟨go_1, ((ji_3) : Int).toNat, none⟩ (.int .u8 ((ji_2) % 256)))) ?hg ?ho ?hn ?hr ?_; (case ho => rfl); (case hg => rfl); (case hn => rfl); (case hr => first | (go_simp; done) | (go_simp; rfl)); intro w_2 hw; have hg : wr.grownBy w_2 (some go_1) := (by rw [hw]; exact HP_1.2); have hp_ : Kd.R (Kd.int .u8) 5 w_2 w.heap.size (fun _ => True) (.slice (some ⟨go_1, 0, none⟩) x_1.length co_1) y_2 := (by rw [hw, Ny_2.out]; exact HP_1.1); clear HP_1; replace HO_2 := a_ (hp_); replace HB := a_ ((by rw [hw]; exact below_set (HB.out) GB_1.out : Below w.heap.size w w_2)); clear hg hw hp_))
   (try simp only [← hl_1])
   go_roundg k1
   case measure => have := HK_1.out; omega
   case rel => exact ⟨(y_2), (wrap64 (x_2 + 1)), fz_, H', ⟨by have := HK_1.out; omega⟩, ⟨by (try simp only [hl_1]); refine rq_ ?_; exact HO_2.out⟩, ⟨bl_ HB⟩⟩

mutual
def pack_Sum.l0 : Nat → ByteArray → Int → Int → Option (Int)
 | 0, _, _, _ => none
 | k + 1, x0, x3, x4 => if x4 = (x0.size : Int) then (some x3) else (if 0 ≤ x4 then (if x4 < (x0.size : Int) then (pack_Sum.l1 k x0 (Go.bits .xor .u16 x3 (IntKind.u16.wrap ((IntKind.u16.wrap (bt x0 x4)) * 256))) x4 0) else (none)) else (none))
def pack_Sum.l1 : Nat → ByteArray → Int → Int → Int → Option (Int)
 | 0, _, _, _, _ => none
 | k + 1, x0, x3, x4, x19 => if x19 < 8 then (pack_Sum.l1 k x0 (Go.bits .xor .u16 (IntKind.u16.wrap (x3 * 2)) (IntKind.u16.wrap (4129 * (x3 / 32768)))) x4 (wrap64 (x19 + 1))) else (pack_Sum.l0 k x0 x3 (wrap64 (x4 + 1)))
end
def pack_Sum.f (k : Nat) (a0 : ByteArray) : Option (Int) := pack_Sum.l0 k a0 65535 0
theorem pack_Sum.mono_l : ∀ k, (∀ y0 y1 y2, LeO (pack_Sum.l0 k y0 y1 y2) (pack_Sum.l0 (k + 1) y0 y1 y2)) ∧ (∀ y0 y1 y2 y3, LeO (pack_Sum.l1 k y0 y1 y2 y3) (pack_Sum.l1 (k + 1) y0 y1 y2 y3))
 | 0 => ⟨fun _ _ _ r h => by simp [pack_Sum.l0] at h, fun _ _ _ _ r h => by simp [pack_Sum.l1] at h⟩
 | k + 1 => by
  obtain ⟨ih0, ih1⟩ := pack_Sum.mono_l k
  refine ⟨?_, ?_⟩
  ·intro y0 y1 y2
   unfold pack_Sum.l0
   repeat' with_reducible first | apply ih0 | apply ih1 | apply LeO.refl | apply LeO.none | apply LeO.ite | refine LeO.bind ?_ (fun _ => ?_)
  ·intro y0 y1 y2 y3
   unfold pack_Sum.l1
   repeat' with_reducible first | apply ih0 | apply ih1 | apply LeO.refl | apply LeO.none | apply LeO.ite | refine LeO.bind ?_ (fun _ => ?_)
theorem pack_Sum.mono : ∀ a0 k, LeO (pack_Sum.f k a0) (pack_Sum.f (k + 1) a0) := by
 intro a0 k
 obtain ⟨ih0, ih1⟩ := pack_Sum.mono_l k
 unfold pack_Sum.f
 repeat' with_reducible first | apply ih0 | apply ih1 | apply LeO.refl | apply LeO.none | apply LeO.ite | refine LeO.bind ?_ (fun _ => ?_)
theorem pack_Sum.calls (k : Nat) (a0 : ByteArray) (r : Int) (w : World) (h : pack_Sum.f k a0 = some r) :
  Calls Try.prog 92 #[.string a0] w fun e w' => e = .returned (.int .u16 r) ∧ Drawn0 w w' := by
 have H := h
 unfold pack_Sum.f at H
 clear h
 have H' := a_ H
 clear H
 go_enter Try.func92, Try.ntmps92
 go_wp2
 repeat (go_step3; try (go_wp2))
 go_loopg [3, 4] k (fun kq v3 v4 w' => ∃ (x3_1 : Int) (x4_1 : Int), v3 = .int .u16 x3_1 ∧ v4 = .int .i64 x4_1 ∧ Aside0 (pack_Sum.l0 kq a0 x3_1 x4_1 = some r) ∧ Aside0 (kq ≤ k) ∧ Drawn0 w w')
 case atStart => exact ⟨(65535), (0), fz_, fz_, H', ⟨Nat.le_refl _⟩, dr_⟩
 case round =>
  clear H'
  obtain ⟨x3_1, x4_1, rfl, rfl, HA, HK1, ⟨m1, rfl⟩⟩ := hrel
  cases gk with
  | zero => exact absurd HA.out (by simp [pack_Sum.l0])
  | succ k1 =>
   have H := HA.out
   clear HA
   simp only [pack_Sum.l0] at H
   by_cases c2 : x4_1 = (a0.size : Int)
   ·rw [if_pos c2] at H
    obtain ⟨c2b0, c2b1⟩ := be_ c2
    clear c2
    obtain rfl := Option.some.inj H
    go_wp2
    repeat (go_step3; try (go_wp2))
    try dsimp only [Exit.noGoto]
    go_ret
    exact ⟨fz_, dr_⟩
   rw [if_neg c2] at H
   obtain ⟨c2b0, c2b1⟩ := bn_ c2
   by_cases c3 : 0 ≤ x4_1
   rotate_left
   ·rw [if_neg c3] at H
    exact absurd H (by simp)


   rw [if_pos c3] at H
   have c3b0 : decide (0 ≤ x4_1) = true := decide_eq_true c3
   clear c3
   replace H := ip_ H
   obtain ⟨-, c4b0, H⟩ := H
   have H' := a_ H
   clear H
   have p5 : 0 ≤ (x4_1 : Int) := od_
   have q5 : x4_1 < (a0.size : Int) := od_
   have hx5 := bt_at a0 x4_1
   replace p5 := eq_true p5
   replace q5 := eq_true q5
   go_wp2
   repeat (go_step3; try (go_wp2))
   go_loopg [3, 19] k1 (fun kq v3 v19 w' => ∃ (x3_2 : Int) (x19_2 : Int), v3 = .int .u16 x3_2 ∧ v19 = .int .i64 x19_2 ∧ Aside0 (pack_Sum.l1 kq a0 x3_2 x4_1 x19_2 = some r) ∧ Aside0 (kq ≤ k1) ∧ Drawn0 w w')
   case atStart => exact ⟨(Go.bits .xor .u16 x3_1 (IntKind.u16.wrap ((IntKind.u16.wrap (bt a0 x4_1)) * 256))), (0), fz_, fz_, H', ⟨Nat.le_refl _⟩, dr_⟩
   case round =>
    clear H'
    try clear c2
    try clear c2b0
    try clear c2b1
    try clear c3
    try clear c3b0
    try clear c4b0
    try clear p5
    try clear q5
    try clear hx5
    try clear p5
    try clear q5
    obtain ⟨x3_2, x19_2, rfl, rfl, HA, HK2, ⟨m2, rfl⟩⟩ := hrel
    cases gk with
    | zero => exact absurd HA.out (by simp [pack_Sum.l1])
    | succ k2 =>
     have H := HA.out
     clear HA
     simp only [pack_Sum.l1] at H
     by_cases c6 : x19_2 < 8
     rotate_left
     ·rw [if_neg c6] at H
      have c6b0 : decide (x19_2 < 8) = false := decide_eq_false c6
      clear c6
      have H' := a_ H
      clear H
      go_wp2
      repeat (go_step3; try (go_wp2))
      go_roundg k2
      case measure => have := HK1.out; have := HK2.out; omega
      case rel => exact ⟨(x3_2), (wrap64 (x4_1 + 1)), fz_, fz_, H', ⟨by have := HK1.out; have := HK2.out; omega⟩, dr_⟩
     rw [if_pos c6] at H
     have c6b0 : decide (x19_2 < 8) = true := decide_eq_true c6
     clear c6
     have H' := a_ H
     clear H
     go_wp2
     repeat (go_step3; try (go_wp2))
     go_roundg k2
     case measure => have := HK1.out; have := HK2.out; omega
     case rel => exact ⟨(Go.bits .xor .u16 (IntKind.u16.wrap (x3_2 * 2)) (IntKind.u16.wrap (4129 * (x3_2 / 32768)))), (wrap64 (x19_2 + 1)), fz_, fz_, H', ⟨by have := HK1.out; have := HK2.out; omega⟩, dr_⟩
def pack_Frame.f (k : Nat) (a0 : ByteArray) : Option (ByteArray × Int) := if (a0.size : Int) > 65536 then (some ((⟨#[]⟩ : ByteArray), 2)) else ((pack_fixed.f k (IntKind.u64.wrap ((a0.size : Int))) 4).bind fun t215 => (if t215.size + a0.size ≤ 9223372036854775807 then ((pack_Sum.f k (t215 ++ a0)).bind fun t216 => ((pack_fixed.f k (IntKind.u64.wrap (t216)) 2).bind fun t217 => (if t215.size + t217.size ≤ 9223372036854775807 then (if (t215 ++ t217).size + a0.size ≤ 9223372036854775807 then (some ((t215 ++ t217) ++ a0, 0)) else (none)) else (none)))) else (none)))
theorem pack_Frame.mono : ∀ a0 k, LeO (pack_Frame.f k a0) (pack_Frame.f (k + 1) a0) := by
 intro a0 k
 unfold pack_Frame.f
 repeat' with_reducible first | apply pack_Sum.mono | apply pack_fixed.mono | apply LeO.refl | apply LeO.none | apply LeO.ite | refine LeO.bind ?_ (fun _ => ?_)
theorem pack_Frame.calls (k : Nat) (a0 : ByteArray) (r1 : ByteArray) (r2 : Int) (w : World) (h : pack_Frame.f k a0 = some (r1, r2)) :
  Calls Try.prog 59 #[.string a0] w fun e w' => e = .returned (.tuple #[.string r1, .int .i64 r2]) ∧ Below w.heap.size w w' := by
 have HB := a_ (Below.refl w.heap.size w)
 have H := h
 unfold pack_Frame.f at H
 clear h
 by_cases c2 : (a0.size : Int) > 65536
 ·rw [if_pos c2] at H
  have c2b0 : decide (65536 < (a0.size : Int)) = true := decide_eq_true c2
  have c2b1 : decide (65536 < a0.size) = true := decide_eq_true (by omega)
  clear c2
  obtain ⟨rfl, rfl⟩ := so2_ H
  go_enter Try.func59, Try.ntmps59
  go_wp2
  go_ret2
  exact ⟨fz_, bl_ HB⟩
 rw [if_neg c2] at H
 have c2b0 : decide (65536 < (a0.size : Int)) = false := decide_eq_false c2
 have c2b1 : decide (65536 < a0.size) = false := decide_eq_false (by omega)
 clear c2
 obtain ⟨t215, A3, H⟩ := ob_ H
 try dsimp only at H
 by_cases c4 : t215.size + a0.size ≤ 9223372036854775807
 rotate_left
 ·rw [if_neg c4] at H
  exact absurd H (by simp)


 rw [if_pos c4] at H
 have c4b0 := eq_true c4
 have c4b1 : decide (t215.size + a0.size ≤ 9223372036854775807) = true := decide_eq_true c4
 try have c4b2 : (9223372036854775807 < t215.size + a0.size) = False := eq_false (Nat.not_lt.2 c4)
 clear c4
 obtain ⟨t216, A5, H⟩ := ob_ H
 try dsimp only at H
 obtain ⟨t217, A6, H⟩ := ob_ H
 try dsimp only at H
 replace H := iq_ H
 obtain ⟨c7, H⟩ := H
 have c7b0 := eq_true c7
 have c7b1 : decide (t215.size + t217.size ≤ 9223372036854775807) = true := decide_eq_true c7
 try have c7b2 : (9223372036854775807 < t215.size + t217.size) = False := eq_false (Nat.not_lt.2 c7)
 clear c7
 replace H := iq_ H
 obtain ⟨c8, H⟩ := H
 have c8b0 := eq_true c8
 have c8b1 : decide ((t215 ++ t217).size + a0.size ≤ 9223372036854775807) = true := decide_eq_true c8
 try have c8b2 : (9223372036854775807 < (t215 ++ t217).size + a0.size) = False := eq_false (Nat.not_lt.2 c8)
 clear c8
 obtain ⟨rfl, rfl⟩ := so2_ H
 (try (have c8b0x := c8b0; simp only [ByteArray.size_extract, ByteArray.size_append, Nat.min_self, Nat.sub_zero] at c8b0x))
 (try (have c8b1x := c8b1; simp only [ByteArray.size_extract, ByteArray.size_append, Nat.min_self, Nat.sub_zero] at c8b1x))
 (try (have c8b2x := c8b2; simp only [ByteArray.size_extract, ByteArray.size_append, Nat.min_self, Nat.sub_zero] at c8b2x))
 go_enter Try.func59, Try.ntmps59
 go_wp2_with (first | ((with_reducible refine gk_ 91 ?_); refine gl_ (some 11) Try.func91 #[.int .u64 (IntKind.u64.wrap ((a0.size : Int))), .int .i64 4] ?_; (with_reducible refine (pack_fixed.calls _ _ _ _ _ A3.out).mono ?_); rintro e w9 ⟨rfl, hb⟩; refine ⟨_, rfl, ?_⟩; replace HB := hB_ (bl_ HB) hb; (try clear hb)) | ((with_reducible refine gk_ 92 ?_); refine gl_ (some 16) Try.func92 #[.string (t215 ++ a0)] ?_; (with_reducible refine (pack_Sum.calls _ _ _ _ A5.out).mono ?_); rintro e w' ⟨rfl, ⟨nd, rfl⟩⟩; refine ⟨_, rfl, ?_⟩) | ((with_reducible refine gk_ 91 ?_); refine gl_ (some 18) Try.func91 #[.int .u64 (IntKind.u64.wrap (t216)), .int .i64 2] ?_; (with_reducible refine (pack_fixed.calls _ _ _ _ _ A6.out).mono ?_); rintro e w10 ⟨rfl, hb⟩; refine ⟨_, rfl, ?_⟩; replace HB := hB_ (bl_ HB) hb; (try clear hb)))
 go_ret2
 exact ⟨fz_, bl_ HB⟩
def pack_TakeFrame.j0 : Nat → ByteArray → Int → Bool → Option (ByteArray × ByteArray × Int)
 | 0, _, _, _ => none
 | k + 1, x0, x5, x18 => if x18 = true then (some ((⟨#[]⟩ : ByteArray), (⟨#[]⟩ : ByteArray), 3)) else (if 6 ≤ (wrap64 (6 + (wrap64 (x5)))) then (if (wrap64 (6 + (wrap64 (x5)))) ≤ (x0.size : Int) then ((pack_Frame.f k (x0.extract 6 ((wrap64 (6 + (wrap64 (x5)))) : Int).toNat)).bind fun bt219 => (if 0 ≤ (wrap64 (6 + (wrap64 (x5)))) then (if bt219.1.toList = (x0.extract 0 ((wrap64 (6 + (wrap64 (x5)))) : Int).toNat).toList then (some (x0.extract 6 ((wrap64 (6 + (wrap64 (x5)))) : Int).toNat, x0.extract ((wrap64 (6 + (wrap64 (x5)))) : Int).toNat x0.size, 0)) else (some ((⟨#[]⟩ : ByteArray), (⟨#[]⟩ : ByteArray), 4))) else (none))) else (none)) else (none))
def pack_TakeFrame.f (k : Nat) (a0 : ByteArray) : Option (ByteArray × ByteArray × Int) := if (a0.size : Int) < 4 then (some ((⟨#[]⟩ : ByteArray), (⟨#[]⟩ : ByteArray), 3)) else (if 0 ≤ 4 then (if 4 ≤ (a0.size : Int) then ((pack_value.f k (a0.extract 0 4)).bind fun t218 => (if t218 > 65536 then (some ((⟨#[]⟩ : ByteArray), (⟨#[]⟩ : ByteArray), 2)) else (if (a0.size : Int) < 6 then (pack_TakeFrame.j0 k a0 t218 true) else (pack_TakeFrame.j0 k a0 t218 (decide (t218 > (IntKind.u64.wrap (wrap64 ((a0.size : Int) - 6))))))))) else (none)) else (none))
theorem pack_TakeFrame.mono_l : ∀ k, (∀ y0 y1 y2, LeO (pack_TakeFrame.j0 k y0 y1 y2) (pack_TakeFrame.j0 (k + 1) y0 y1 y2))
 | 0 => fun _ _ _ r h => by simp [pack_TakeFrame.j0] at h
 | k + 1 => by
  have ih0 := pack_TakeFrame.mono_l k
  ·intro y0 y1 y2
   unfold pack_TakeFrame.j0
   repeat' with_reducible first | apply ih0 | apply pack_Frame.mono | apply pack_value.mono | apply LeO.refl | apply LeO.none | apply LeO.ite | refine LeO.bind ?_ (fun _ => ?_)
theorem pack_TakeFrame.mono : ∀ a0 k, LeO (pack_TakeFrame.f k a0) (pack_TakeFrame.f (k + 1) a0) := by
 intro a0 k
 have ih0 := pack_TakeFrame.mono_l k
 unfold pack_TakeFrame.f
 repeat' with_reducible first | apply ih0 | apply pack_Frame.mono | apply pack_value.mono | apply LeO.refl | apply LeO.none | apply LeO.ite | refine LeO.bind ?_ (fun _ => ?_)
theorem pack_TakeFrame.calls (k : Nat) (a0 : ByteArray) (r1 : ByteArray) (r2 : ByteArray) (r3 : Int) (w : World) (h : pack_TakeFrame.f k a0 = some (r1, r2, r3)) :
  Calls Try.prog 38 #[.string a0] w fun e w' => e = .returned (.tuple #[.string r1, .string r2, .int .i64 r3]) ∧ Below w.heap.size w w' := by
 have HB := a_ (Below.refl w.heap.size w)
 have H := h
 unfold pack_TakeFrame.f at H
 clear h
 by_cases c2 : (a0.size : Int) < 4
 ·rw [if_pos c2] at H
  have c2b0 : decide ((a0.size : Int) < 4) = true := decide_eq_true c2
  have c2b1 : decide (a0.size < 4) = true := decide_eq_true (by omega)
  clear c2
  obtain ⟨rfl, rfl, rfl⟩ := so3_ H
  go_enter Try.func38, Try.ntmps38
  go_wp2
  repeat (go_quiet (fail); try go_wp2)
  go_ret3
  exact ⟨fz_, bl_ HB⟩
 rw [if_neg c2] at H
 have c2b0 : decide ((a0.size : Int) < 4) = false := decide_eq_false c2
 have c2b1 : decide (a0.size < 4) = false := decide_eq_false (by omega)
 clear c2
 by_cases c3 : 0 ≤ 4
 rotate_left
 ·rw [if_neg c3] at H
  exact absurd H (by simp)


 rw [if_pos c3] at H
 have c3b0 := eq_true c3
 have c3b1 : decide (0 ≤ 4) = true := decide_eq_true c3
 clear c3
 replace H := iq_ H
 obtain ⟨c4, H⟩ := H
 have c4b0 := eq_true c4
 have c4b1 : decide (4 ≤ (a0.size : Int)) = true := decide_eq_true c4
 clear c4
 obtain ⟨t218, A5, H⟩ := ob_ H
 try dsimp only at H
 by_cases c6 : t218 > 65536
 ·rw [if_pos c6] at H
  have c6b0 : decide (65536 < t218) = true := decide_eq_true c6
  clear c6
  obtain ⟨rfl, rfl, rfl⟩ := so3_ H
  go_enter Try.func38, Try.ntmps38
  go_wp2_with (first | (go_at_call 61; (with_reducible refine (pack_value.calls _ _ _ _ A5.out).mono ?_); rintro e w' ⟨rfl, ⟨nd, rfl⟩⟩; (try first | exact ⟨rfl, _, World.drewN_drewN _ _ _⟩ | exact ⟨rfl, _, Eq.trans (World.drewN_drewN _ _ _) (congrArg (World.drewN _) (Nat.add_assoc _ _ _))⟩)) | go_quiet (first | (go_at_call 61; (with_reducible refine (pack_value.calls _ _ _ _ A5.out).mono ?_); rintro e w' ⟨rfl, ⟨nd, rfl⟩⟩; (try first | exact ⟨rfl, _, World.drewN_drewN _ _ _⟩ | exact ⟨rfl, _, Eq.trans (World.drewN_drewN _ _ _) (congrArg (World.drewN _) (Nat.add_assoc _ _ _))⟩))))
  go_ret3
  exact ⟨fz_, bl_ HB⟩
 rw [if_neg c6] at H
 have c6b0 : decide (65536 < t218) = false := decide_eq_false c6
 clear c6
 have HC7 := a_ H
 clear H
 go_enter Try.func38, Try.ntmps38
 go_upto_region 6 with (first | (go_at_call 61; (with_reducible refine (pack_value.calls _ _ _ _ A5.out).mono ?_); rintro e w' ⟨rfl, ⟨nd, rfl⟩⟩; (try first | exact ⟨rfl, _, World.drewN_drewN _ _ _⟩ | exact ⟨rfl, _, Eq.trans (World.drewN_drewN _ _ _) (congrArg (World.drewN _) (Nat.add_assoc _ _ _))⟩)))
 repeat (go_quiet (first | (go_at_call 61; (with_reducible refine (pack_value.calls _ _ _ _ A5.out).mono ?_); rintro e w' ⟨rfl, ⟨nd, rfl⟩⟩; (try first | exact ⟨rfl, _, World.drewN_drewN _ _ _⟩ | exact ⟨rfl, _, Eq.trans (World.drewN_drewN _ _ _) (congrArg (World.drewN _) (Nat.add_assoc _ _ _))⟩))); go_upto_region 6 with (first | (go_at_call 61; (with_reducible refine (pack_value.calls _ _ _ _ A5.out).mono ?_); rintro e w' ⟨rfl, ⟨nd, rfl⟩⟩; (try first | exact ⟨rfl, _, World.drewN_drewN _ _ _⟩ | exact ⟨rfl, _, Eq.trans (World.drewN_drewN _ _ _) (congrArg (World.drewN _) (Nat.add_assoc _ _ _))⟩))))
 (try simp only [Act.put, List.setIfInBounds_toArray, List.set_cons_zero, List.set_cons_succ])
 go_cut [18] (fun v18 wc => ∃ (kq : Nat) (x18_6 : Bool), v18 = .bool x18_6 ∧ Aside0 (pack_TakeFrame.j0 kq a0 t218 x18_6 = some (r1, r2, r3)) ∧ Aside0 (kq ≤ k) ∧ Aside0 (Below w.heap.size w wc))
 case first =>
  have H := HC7.out
  clear HC7
  by_cases c8 : (a0.size : Int) < 6
  ·rw [if_pos c8] at H
   have c8b0 : decide ((a0.size : Int) < 6) = true := decide_eq_true c8
   have c8b1 : decide (a0.size < 6) = true := decide_eq_true (by omega)
   clear c8
   (first | rw [c8b0] | (simp only [i64_w, i32_w]; rw [c8b0]) | skip)
   have H' := a_ H
   clear H
   go_wp2
   repeat (go_quiet (fail); try go_wp2)
   go_meet
   case rel => exact ⟨_, (true), fz_, H', ⟨by first | omega | exact Nat.le_refl _⟩, ⟨bl_ HB⟩⟩
  rw [if_neg c8] at H
  have c8b0 : decide ((a0.size : Int) < 6) = false := decide_eq_false c8
  have c8b1 : decide (a0.size < 6) = false := decide_eq_false (by omega)
  clear c8
  (first | rw [c8b0] | (simp only [i64_w, i32_w]; rw [c8b0]) | skip)
  have H' := a_ H
  clear H
  go_wp2
  repeat (go_quiet (fail); try go_wp2)
  go_meet
  case rel => exact ⟨_, (decide (t218 > (IntKind.u64.wrap (wrap64 ((a0.size : Int) - 6))))), fz_, H', ⟨by first | omega | exact Nat.le_refl _⟩, ⟨bl_ HB⟩⟩
 case rest =>
  clear HC7
  try clear c2
  try clear c2b0
  try clear c2b1
  try clear c3
  try clear c3b0
  try clear c3b1
  try clear c4
  try clear c4b0
  try clear c4b1
  try clear c6
  try clear c6b0
  obtain ⟨kq, x18_6, rfl, HA, HJ6, HB⟩ := hcut
  cases kq with
  | zero => exact absurd HA.out (by simp [pack_TakeFrame.j0])
  | succ kj6 =>
   have H := HA.out
   clear HA
   simp only [pack_TakeFrame.j0] at H
   by_cases c9 : x18_6 = true
   ·subst c9
    have H1 : (some ((⟨#[]⟩ : ByteArray), (⟨#[]⟩ : ByteArray), 3)) = some (r1, r2, r3) := by rw [if_pos rfl] at H; exact H
    clear H
    have H := H1
    clear H1
    obtain ⟨rfl, rfl, rfl⟩ := so3_ H
    go_wp2
    repeat (go_quiet (fail); try go_wp2)
    go_ret3
    exact ⟨fz_, bl_ HB⟩
   replace c9 := Bool.eq_false_iff.mpr c9
   subst c9
   have H1 : (if 6 ≤ (wrap64 (6 + (wrap64 (t218)))) then (if (wrap64 (6 + (wrap64 (t218)))) ≤ (a0.size : Int) then ((pack_Frame.f kj6 (a0.extract 6 ((wrap64 (6 + (wrap64 (t218)))) : Int).toNat)).bind fun bt219 => (if 0 ≤ (wrap64 (6 + (wrap64 (t218)))) then (if bt219.1.toList = (a0.extract 0 ((wrap64 (6 + (wrap64 (t218)))) : Int).toNat).toList then (some (a0.extract 6 ((wrap64 (6 + (wrap64 (t218)))) : Int).toNat, a0.extract ((wrap64 (6 + (wrap64 (t218)))) : Int).toNat a0.size, 0)) else (some ((⟨#[]⟩ : ByteArray), (⟨#[]⟩ : ByteArray), 4))) else (none))) else (none)) else (none)) = some (r1, r2, r3) := by rw [if_neg (show ¬ (false = true) by decide)] at H; exact H
   clear H
   have H := H1
   clear H1
   replace H := iq_ H
   obtain ⟨c10, H⟩ := H
   have c10b0 := eq_true c10
   have c10b1 : decide (6 ≤ (wrap64 (6 + (wrap64 (t218))))) = true := decide_eq_true c10
   clear c10
   replace H := iq_ H
   obtain ⟨c11, H⟩ := H
   have c11b0 := eq_true c11
   have c11b1 : decide ((wrap64 (6 + (wrap64 (t218)))) ≤ (a0.size : Int)) = true := decide_eq_true c11
   clear c11
   obtain ⟨⟨t219, t220⟩, A12, H⟩ := ob_ H
   try dsimp only at H
   obtain ⟨ji13, hji13⟩ : ∃ j_ : Int, (wrap64 (6 + (wrap64 (t218)))) = j_ := ⟨_, rfl⟩
   replace H : (if 0 ≤ (ji13) then (if t219.toList = (a0.extract 0 ((ji13) : Int).toNat).toList then (some (a0.extract 6 ((ji13) : Int).toNat, a0.extract ((ji13) : Int).toNat a0.size, 0)) else (some ((⟨#[]⟩ : ByteArray), (⟨#[]⟩ : ByteArray), 4))) else (none)) = some (r1, r2, r3) := by first | (rw [hji13] at H; exact H) | (simp only [hji13] at H ⊢; exact H)
   (try rw [hji13] at c10b0)
   (try rw [hji13] at c10b1)
   (try rw [hji13] at c11b0)
   (try rw [hji13] at c11b1)
   (try rw [hji13] at A12)
   have hji13w : (IntKind.i64.wrap (6 + (wrap64 (t218)))) = ji13 := (i64_w _).trans hji13
   replace H := iq_ H
   obtain ⟨c14, H⟩ := H
   have c14b0 := eq_true c14
   have c14b1 : decide (0 ≤ (ji13)) = true := decide_eq_true c14
   clear c14
   have c15b0 := eq_true (od_ : (ji13) ≤ (a0.size : Int))
   by_cases c16 : t219.toList = (a0.extract 0 ((ji13) : Int).toNat).toList
   rotate_left
   ·rw [if_neg c16] at H
    obtain ⟨c16b0, c16b1⟩ := bn_ c16
    obtain ⟨rfl, rfl, rfl⟩ := so3_ H
    go_wp2_with (first | (go_at_call 59; (with_reducible refine (pack_Frame.calls _ _ _ _ _ A12.out).mono ?_); rintro e w22 ⟨rfl, hb⟩; replace HB := hB_ (bl_ HB) hb; (try clear hb)) | go_quiet (first | (go_at_call 59; (with_reducible refine (pack_Frame.calls _ _ _ _ _ A12.out).mono ?_); rintro e w22 ⟨rfl, hb⟩; replace HB := hB_ (bl_ HB) hb; (try clear hb))))
    go_ret3
    exact ⟨by first | rfl | (simp [errW_none, errW_some] <;> rfl) | (simp only [← hji13]; first | rfl | (simp [errW_none, errW_some] <;> rfl)) | (simp [*, errW_none, errW_some] <;> rfl), bl_ HB⟩
   rw [if_pos c16] at H
   obtain ⟨c16b0, c16b1⟩ := be_ c16
   clear c16
   have c17b0 := eq_true (od_ : 6 ≤ (ji13))
   have c18b0 := eq_true (od_ : (ji13) ≤ (a0.size : Int))
   have c19b0 := eq_true (od_ : 0 ≤ (ji13))
   have c20b0 := eq_true (od_ : (ji13) ≤ (a0.size : Int))
   obtain ⟨rfl, rfl, rfl⟩ := so3_ H
   go_wp2_with (first | (go_at_call 59; (with_reducible refine (pack_Frame.calls _ _ _ _ _ A12.out).mono ?_); rintro e w21 ⟨rfl, hb⟩; replace HB := hB_ (bl_ HB) hb; (try clear hb)) | go_quiet (first | (go_at_call 59; (with_reducible refine (pack_Frame.calls _ _ _ _ _ A12.out).mono ?_); rintro e w21 ⟨rfl, hb⟩; replace HB := hB_ (bl_ HB) hb; (try clear hb))))
   go_ret3
   exact ⟨by first | rfl | (simp [errW_none, errW_some] <;> rfl) | (simp only [← hji13]; first | rfl | (simp [errW_none, errW_some] <;> rfl)) | (simp [*, errW_none, errW_some] <;> rfl), bl_ HB⟩
def snap_Load.f (k : Nat) (l0_0 : List (S71)) (a0_1 : Bool) (a0_2 : Int) : Option (Int × Int × List Int × ByteArray × Int) := (disk_Read.f k l0_0 a0_1 a0_2 (⟨#[115, 110, 97, 112]⟩ : ByteArray)).bind fun bt223 => (if bt223.2 = 6 then (some (0, 0, ([] : List Int), (⟨#[]⟩ : ByteArray), 0)) else (if bt223.2 = 0 then ((pack_TakeFrame.f k bt223.1).bind fun bt225 => ((snap_Decode.f k bt225.1).bind fun bt228 => (if bt225.2.2 = 0 then (if bt228.2.2.2.2 = 0 then (if bt225.2.1.toList = ([] : List UInt8) then (some (bt228.1, bt228.2.1, bt228.2.2.1, bt228.2.2.2.1, 0)) else (some (0, 0, ([] : List Int), (⟨#[]⟩ : ByteArray), 4))) else (some (0, 0, ([] : List Int), (⟨#[]⟩ : ByteArray), 4))) else (some (0, 0, ([] : List Int), (⟨#[]⟩ : ByteArray), 4))))) else (some (0, 0, ([] : List Int), (⟨#[]⟩ : ByteArray), bt223.2))))
theorem snap_Load.mono : ∀ a0 a1 a2 k, LeO (snap_Load.f k a0 a1 a2) (snap_Load.f (k + 1) a0 a1 a2) := by
 intro a0 a1 a2 k
 unfold snap_Load.f
 repeat' with_reducible first | apply disk_Read.mono | apply pack_TakeFrame.mono | apply snap_Decode.mono | apply LeO.refl | apply LeO.none | apply LeO.ite | refine LeO.bind ?_ (fun _ => ?_)
theorem snap_Load.calls (k : Nat) (A0_0 : Option Addr) (c0_0 : Nat) (l0_0 : List (S71)) (a0_1 : Bool) (a0_2 : Int) (r1 : Int) (r2 : Int) (r3 : List Int) (r4 : ByteArray) (r5 : Int) (w : World) (hr0_0 : Kd.C k71 w A0_0 l0_0.length l0_0) (hc0_0 : l0_0.length ≤ c0_0) (h : snap_Load.f k l0_0 a0_1 a0_2 = some (r1, r2, r3, r4, r5)) :
  Calls Try.prog 33 #[.agg #[.slice A0_0 l0_0.length c0_0, .bool a0_1, .int .i64 a0_2]] w fun e w' => ∃ v2_ : Value, e = .returned (.tuple #[.agg #[.int .u64 r1, .int .u64 r2, v2_, .string r4], .int .i64 r5]) ∧ Kd.R (Kd.int .i64) 3 w' w.heap.size (fun _ => True) v2_ r3 ∧ Below w.heap.size w w' := by
 have hu_1 := Try.underlying24
 have hu_2 := Try.underlying48
 have HR_1 := a_ hr0_0
 have HC_1 := a_ hc0_0
 clear hr0_0 hc0_0
 have HB := a_ (Below.refl w.heap.size w)
 have H := h
 unfold snap_Load.f at H
 clear h
 obtain ⟨⟨t_1, t_2⟩, A_2, H⟩ := ob_ H
 try dsimp only at H
 by_cases c_1 : t_2 = 6
 focus
  rw [if_pos c_1] at H
  obtain ⟨c_2, c_3⟩ := be_ c_1
  clear c_1
  obtain ⟨rfl, rfl, rfl, rfl, rfl⟩ := so5_ H
  have L0_ := trivial
 rotate_left
 focus
  rw [if_neg c_1] at H
  obtain ⟨c_2, c_3⟩ := bn_ c_1
  by_cases c_4 : t_2 = 0
  rotate_left
  focus
   rw [if_neg c_4] at H
   obtain ⟨c_5, c_6⟩ := bn_ c_4
   obtain ⟨rfl, rfl, rfl, rfl, rfl⟩ := so5_ H
   have L0_ := trivial
  rotate_left
  focus
   rw [if_pos c_4] at H
   obtain ⟨c_5, c_6⟩ := be_ c_4
   clear c_4
   obtain ⟨⟨t_3, t_4, t_5⟩, A_4, H⟩ := ob_ H
   try dsimp only at H
   obtain ⟨⟨t_6, t_7, t_8, t_9, t_10⟩, A_6, H⟩ := ob_ H
   try dsimp only at H
   by_cases c_7 : t_5 = 0
   rotate_left
   focus
    rw [if_neg c_7] at H
    obtain ⟨c_8, c_9⟩ := bn_ c_7
    obtain ⟨rfl, rfl, rfl, rfl, rfl⟩ := so5_ H
    have L1_ := trivial
   rotate_left
   focus
    rw [if_pos c_7] at H
    obtain ⟨c_8, c_9⟩ := be_ c_7
    clear c_7
    by_cases c_10 : t_10 = 0
    rotate_left
    focus
     rw [if_neg c_10] at H
     obtain ⟨c_11, c_12⟩ := bn_ c_10
     obtain ⟨rfl, rfl, rfl, rfl, rfl⟩ := so5_ H
     have L1_ := trivial
    rotate_left
    focus
     rw [if_pos c_10] at H
     obtain ⟨c_11, c_12⟩ := be_ c_10
     clear c_10
     by_cases c_13 : t_4.toList = ([] : List UInt8)
     rotate_left
     focus
      rw [if_neg c_13] at H
      obtain ⟨c_14, c_15⟩ := bn_ c_13
      obtain ⟨rfl, rfl, rfl, rfl, rfl⟩ := so5_ H
      have L1_ := trivial
     rotate_left
     rw [if_pos c_13] at H
     obtain ⟨c_14, c_15⟩ := be_ c_13
     clear c_13
     obtain ⟨rfl, rfl, rfl, rfl, rfl⟩ := so5_ H
     have L2_ := trivial
 all_goals
  go_enter Try.func33, Try.ntmps33
  first
  | (have _ := L0_
     go_wp2_with (first | ((with_reducible refine gd_ 1 ?_); refine bz_ 1 #[.slice A0_0 l0_0.length c0_0, .bool a0_1, .int .i64 a0_2] 24 ?_; intro gb_1 hg w_1 BK_1 hb; have GE_1 := a_ (bs_0 hg HB); replace HB := hB_ (bl_ HB) hb; clear hb hg) | ((with_reducible refine gd_ 2 ?_); refine bz_ 2 #[.int .u64 0, .int .u64 0, .slice none 0 0, .string (⟨#[]⟩ : ByteArray)] 48 ?_; intro gb_2 hg w_2 BK_2 hb; have GE_2 := a_ (bs_1 hg HB GE_1); replace HB := hB_ (bl_1 HB GE_1) hb; have NB_1 := nB_ hg BK_1; have NB_2 := nC_ hg BK_1; replace BK_1 := bB_ BK_1 hb; clear hb hg; have := NB_1.out; have := NB_2.out; obtain ⟨_, _, _, _, _, _⟩ := c3_ BK_1) | ((with_reducible refine gk_ 24 ?_); refine gl_ (some 12) Try.func24 #[.agg #[.slice A0_0 l0_0.length c0_0, .bool a0_1, .int .i64 a0_2], .string (⟨#[115, 110, 97, 112]⟩ : ByteArray)] ?_; (with_reducible refine (disk_Read.calls _ _ _ _ _ _ _ _ _ _ ?side1 ?side2 A_2.out).mono ?_); (case side1 => exact cl_ (Kd.C_below HR_1.out HB.out)); (case side2 => exact HC_1.out); rintro e w_3 ⟨rfl, hb⟩; refine ⟨_, rfl, ?_⟩; replace BK_1 := bB_ BK_1 hb; replace BK_2 := bB_ BK_2 hb; replace HB := hB_ (bl_2 HB GE_1 GE_2) hb; (try clear hb); obtain ⟨_, _, _, _, _, _, _, _⟩ := c4_ BK_2))
     refine bodyPost_ret (results_ct rfl _ _ gb_2 48 #[.int .u64 0, .int .u64 0, .slice none 0 0, .string (⟨#[]⟩ : ByteArray)] (0, 0) _ rfl (bp_0 BK_2) Try.underlying48 rfl (by kernel_rfl)) rfl ?_
     exact ⟨_, fz_, nl_, bl_2 HB GE_1 GE_2⟩)
  | (have _ := L1_
     go_wp2_with (first | ((with_reducible refine gd_ 1 ?_); refine bz_ 1 #[.slice A0_0 l0_0.length c0_0, .bool a0_1, .int .i64 a0_2] 24 ?_; intro gb_1 hg w_1 BK_1 hb; have GE_1 := a_ (bs_0 hg HB); replace HB := hB_ (bl_ HB) hb; clear hb hg) | ((with_reducible refine gd_ 2 ?_); refine bz_ 2 #[.int .u64 0, .int .u64 0, .slice none 0 0, .string (⟨#[]⟩ : ByteArray)] 48 ?_; intro gb_2 hg w_2 BK_2 hb; have GE_2 := a_ (bs_1 hg HB GE_1); replace HB := hB_ (bl_1 HB GE_1) hb; have NB_1 := nB_ hg BK_1; have NB_2 := nC_ hg BK_1; replace BK_1 := bB_ BK_1 hb; clear hb hg; have := NB_1.out; have := NB_2.out; obtain ⟨_, _, _, _, _, _⟩ := c3_ BK_1) | ((with_reducible refine gk_ 24 ?_); refine gl_ (some 12) Try.func24 #[.agg #[.slice A0_0 l0_0.length c0_0, .bool a0_1, .int .i64 a0_2], .string (⟨#[115, 110, 97, 112]⟩ : ByteArray)] ?_; (with_reducible refine (disk_Read.calls _ _ _ _ _ _ _ _ _ _ ?side1 ?side2 A_2.out).mono ?_); (case side1 => exact cl_ (Kd.C_below HR_1.out HB.out)); (case side2 => exact HC_1.out); rintro e w_3 ⟨rfl, hb⟩; refine ⟨_, rfl, ?_⟩; replace BK_1 := bB_ BK_1 hb; replace BK_2 := bB_ BK_2 hb; replace HB := hB_ (bl_2 HB GE_1 GE_2) hb; (try clear hb)) | ((with_reducible refine gk_ 38 ?_); refine gl_ (some 26) Try.func38 #[.string t_1] ?_; (with_reducible refine (pack_TakeFrame.calls _ _ _ _ _ _ A_4.out).mono ?_); rintro e w_4 ⟨rfl, hb⟩; refine ⟨_, rfl, ?_⟩; replace BK_1 := bB_ BK_1 hb; replace BK_2 := bB_ BK_2 hb; replace HB := hB_ (bl_2 HB GE_1 GE_2) hb; (try clear hb)) | ((with_reducible refine gk_ 27 ?_); refine gl_ (some 32) Try.func27 #[.string t_3] ?_; (with_reducible refine (snap_Decode.calls _ _ _ _ _ _ _ _ A_6.out).mono ?_); rintro e w_5 ⟨v_1, rfl, ho_1, hb⟩; refine ⟨_, rfl, ?_⟩; have HO_1 := a_ (Kd.R_lower ho_1 (below_size (bl_2 HB GE_1 GE_2))); replace BK_1 := bB_ BK_1 hb; replace BK_2 := bB_ BK_2 hb; replace HB := hB_ (bl_2 HB GE_1 GE_2) hb; (try clear hb); (try clear ho_1)) | ((with_reducible refine gd_ 8 ?_); refine bz_ 8 #[.int .u64 0, .int .u64 0, .slice none 0 0, .string (⟨#[]⟩ : ByteArray)] 48 ?_; intro gb_3 hg w_6 BK_3 hb; replace HO_1 := rb_ HO_1 hb; have GE_3 := a_ (bs_2 hg HB GE_1 GE_2); replace HB := hB_ (bl_2 HB GE_1 GE_2) hb; have NB_3 := nB_ hg BK_1; have NB_4 := nC_ hg BK_1; replace BK_1 := bB_ BK_1 hb; have NB_5 := nB_ hg BK_2; have NB_6 := nC_ hg BK_2; replace BK_2 := bB_ BK_2 hb; clear hb hg; have := NB_4.out; have := NB_3.out; have := NB_6.out; have := NB_5.out; obtain ⟨_, _, _, _, _, _, _, _⟩ := c4_ BK_3; obtain ⟨Ao_1, co_1, eo_1⟩ := Kd.R_slice HO_1.out; subst eo_1; obtain ⟨_, _, _, _, _, _, _, _⟩ := c4_ BK_2))
     refine bodyPost_ret (results_ct rfl _ _ gb_2 48 #[.int .u64 0, .int .u64 0, .slice none 0 0, .string (⟨#[]⟩ : ByteArray)] (0, 0) _ rfl (bp_1 BK_2 NB_5) Try.underlying48 rfl (by kernel_rfl)) rfl ?_
     exact ⟨_, fz_, nl_, bl_3 HB GE_1 GE_2 GE_3⟩)
  | (have _ := L2_
     go_wp2_with (first | ((with_reducible refine gd_ 1 ?_); refine bz_ 1 #[.slice A0_0 l0_0.length c0_0, .bool a0_1, .int .i64 a0_2] 24 ?_; intro gb_1 hg w_1 BK_1 hb; have GE_1 := a_ (bs_0 hg HB); replace HB := hB_ (bl_ HB) hb; clear hb hg) | ((with_reducible refine gd_ 2 ?_); refine bz_ 2 #[.int .u64 0, .int .u64 0, .slice none 0 0, .string (⟨#[]⟩ : ByteArray)] 48 ?_; intro gb_2 hg w_2 BK_2 hb; have GE_2 := a_ (bs_1 hg HB GE_1); replace HB := hB_ (bl_1 HB GE_1) hb; have NB_1 := nB_ hg BK_1; have NB_2 := nC_ hg BK_1; replace BK_1 := bB_ BK_1 hb; clear hb hg; have := NB_1.out; have := NB_2.out; obtain ⟨_, _, _, _, _, _⟩ := c3_ BK_1) | ((with_reducible refine gk_ 24 ?_); refine gl_ (some 12) Try.func24 #[.agg #[.slice A0_0 l0_0.length c0_0, .bool a0_1, .int .i64 a0_2], .string (⟨#[115, 110, 97, 112]⟩ : ByteArray)] ?_; (with_reducible refine (disk_Read.calls _ _ _ _ _ _ _ _ _ _ ?side1 ?side2 A_2.out).mono ?_); (case side1 => exact cl_ (Kd.C_below HR_1.out HB.out)); (case side2 => exact HC_1.out); rintro e w_3 ⟨rfl, hb⟩; refine ⟨_, rfl, ?_⟩; replace BK_1 := bB_ BK_1 hb; replace BK_2 := bB_ BK_2 hb; replace HB := hB_ (bl_2 HB GE_1 GE_2) hb; (try clear hb)) | ((with_reducible refine gk_ 38 ?_); refine gl_ (some 26) Try.func38 #[.string t_1] ?_; (with_reducible refine (pack_TakeFrame.calls _ _ _ _ _ _ A_4.out).mono ?_); rintro e w_4 ⟨rfl, hb⟩; refine ⟨_, rfl, ?_⟩; replace BK_1 := bB_ BK_1 hb; replace BK_2 := bB_ BK_2 hb; replace HB := hB_ (bl_2 HB GE_1 GE_2) hb; (try clear hb)) | ((with_reducible refine gk_ 27 ?_); refine gl_ (some 32) Try.func27 #[.string t_3] ?_; (with_reducible refine (snap_Decode.calls _ _ _ _ _ _ _ _ A_6.out).mono ?_); rintro e w_5 ⟨v_1, rfl, ho_1, hb⟩; refine ⟨_, rfl, ?_⟩; have HO_1 := a_ (Kd.R_lower ho_1 (below_size (bl_2 HB GE_1 GE_2))); replace BK_1 := bB_ BK_1 hb; replace BK_2 := bB_ BK_2 hb; replace HB := hB_ (bl_2 HB GE_1 GE_2) hb; (try clear hb); (try clear ho_1)) | ((with_reducible refine gd_ 8 ?_); refine bz_ 8 #[.int .u64 0, .int .u64 0, .slice none 0 0, .string (⟨#[]⟩ : ByteArray)] 48 ?_; intro gb_3 hg w_6 BK_3 hb; replace HO_1 := rb_ HO_1 hb; have GE_3 := a_ (bs_2 hg HB GE_1 GE_2); replace HB := hB_ (bl_2 HB GE_1 GE_2) hb; have NB_3 := nB_ hg BK_1; have NB_4 := nC_ hg BK_1; replace BK_1 := bB_ BK_1 hb; have NB_5 := nB_ hg BK_2; have NB_6 := nC_ hg BK_2; replace BK_2 := bB_ BK_2 hb; clear hb hg; have := NB_4.out; have := NB_3.out; have := NB_6.out; have := NB_5.out; obtain ⟨_, _, _, _, _, _, _, _⟩ := c4_ BK_3; obtain ⟨Ao_1, co_1, eo_1⟩ := Kd.R_slice HO_1.out; subst eo_1; obtain ⟨_, _, _, _, _, _, _, _⟩ := c4_ BK_2))
     refine bodyPost_ret (results_ct rfl _ _ gb_2 48 #[.int .u64 t_6, .int .u64 t_7, .slice Ao_1 t_8.length co_1, .string t_9] (0, 0) _ rfl (bp_1 BK_2 NB_5) Try.underlying48 rfl (by kernel_rfl)) rfl ?_
     exact ⟨_, fz_, by refine rq_ ?_; exact rf2_ HO_1 BK_3 BK_2, bl_3 HB GE_1 GE_2 GE_3⟩)

def api_File_48.f (l0 : List (S71)) : Option ((List (S71))) := (some (([] : List (S71)) : List (S71))).bind fun y236 => (if y236.length + l0.length < 3518437208883 then (some (y236 ++ l0)) else (none))
theorem api_File_48.calls_ (A0 : Option Addr) (hA_ : A0.isNone = false) (c0 : Nat) (l0 : List (S71)) (r : List (S71)) (w : World) (hr0 : Kd.C k71 w A0 l0.length l0) (hc0 : l0.length ≤ c0) (h : api_File_48.f l0 = some r) :
  Calls Try.prog 48 #[.slice A0 l0.length c0] w fun e w' => ∃ v0_ : Value, e = .returned (v0_) ∧ Kd.R k71 71 w' w.heap.size (fun _ => True) v0_ r ∧ Below w.heap.size w w' := by
 have HR0 := a_ hr0
 have HC0 := a_ hc0
 clear hr0 hc0
 have q_ : ∀ (w : World) (n c n' c' : Nat), (binOp .eql 22 (.slice A0 n c) (.slice none n' c')).run Try.prog w = .ok (.bool false) w := fun w n c n' c' => by rw [Lib.run_eql_slice_nil w _ _ A0 n c n' c' Try.underlying22, hA_]
 have HB := a_ (Below.refl w.heap.size w)
 have H := h
 unfold api_File_48.f at H
 clear h
 obtain ⟨y236, hy236⟩ : ∃ y_ : List (S71), y_ = (([] : List (S71))) := ⟨_, rfl⟩
 replace H : (if y236.length + l0.length < 3518437208883 then (some (y236 ++ l0)) else (none)) = some r := by first | (rw [hy236]; with_reducible exact H) | (have H2_ := (Option.bind_some _ _).symm.trans H; rw [hy236]; with_reducible exact H2_) | (have H2_ := (Option.bind_some _ _).symm.trans H; with_reducible exact H2_) | with_reducible exact H | (rw [hy236]; exact H) | exact H
 have Ny236 := a_ hy236
 clear hy236
 replace H := iq_ H
 obtain ⟨c2, H⟩ := H
 have LMc2 := a_ c2
 clear c2
 obtain ⟨y239, hy239⟩ : ∃ y_ : List (S71), y_ = (y236 ++ l0) := ⟨_, rfl⟩
 replace H : (some y239) = some r := by first | (rw [hy239]; with_reducible exact H) | (have H2_ := (Option.bind_some _ _).symm.trans H; rw [hy239]; with_reducible exact H2_) | (have H2_ := (Option.bind_some _ _).symm.trans H; with_reducible exact H2_) | with_reducible exact H | (rw [hy239]; exact H) | exact H
 have Ny239 := a_ hy239
 clear hy239
 obtain rfl := Option.some.inj H
 go_enter Try.func48, Try.ntmps48
 go_wp2_with (first | ((with_reducible refine gd_ 5 ?_); refine Kd.R_lit k71 _ 71 ?hg (N := 5) ?hd (xs := ([] : List (S71))) (inner := []) (ok := fun _ => True) (okp := fun _ => True) ?hr ?hp (fun _ hk => hk) trivial (Below.refl _ _) (Nat.le_refl _) (by simp) ?_; (case hd => rfl); (case hg => rfl); (case hr => first | (go_simp; done) | (go_simp; rfl)); (case hp => exact (Reps.none _ _)); intro v237 w3 ho4 hb hg_ hnew_; clear hg_ hnew_; (first | rw [← Ny236.out] at ho4 | (simp only [Int.reduceToNat] at ho4; rw [← Ny236.out] at ho4)); have HO238 := a_ (Kd.R_lower ho4 (below_size (bl_ HB))); replace HB := hB_ (bl_ HB) hb; clear hb ho4) | ((with_reducible refine gate_builtin (b := .append) (xs := #[.tmp 5, .tmp 6]) rfl ?_); at_builtin; refine Kd.R_append_rows k71 (w0 := w) w.heap.size rfl (.tmp 5) (.tmp 6) 22 71 (.agg #[(.string ⟨#[]⟩), (.string ⟨#[]⟩), (.int .i64 0)]) 40 rfl Try.underlying22 info71 rfl (by decide) (by omega) v237 y236 l0 _ _ _ (fun _ => True) (fun _ => False) rfl rfl ?aO ?aR (fun _ _ h => h) (fun _ h => h.elim) ?aF ?aB ?aS ?aL ?_; (case aR => exact cl_ (Kd.C_below HR0.out HB.out)); (case aB => exact (bl_ HB)); (case aF => exact (fun _ _ => trivial)); (case aO => exact (by refine rq_ ?_; exact HO238.out)); (case aS => exact (below_size (bl_ HB))); (case aL => have := LMc2.out; omega); intro v240 w5 ho hb hg hat; rw [← Ny239.out] at ho; replace HB := a_ (hb); have HO241 := a_ (ho); clear HO238; clear ho hb hg hat))
 go_ret
 exact ⟨_, fz_, by refine rq_ ?_; exact HO241.out, bl_ HB⟩
set_option maxRecDepth 100000 in
theorem api_File_48.calls (A0 : Option Addr) (c0 : Nat) (l0 : List (S71)) (r : List (S71)) (w : World) (hr0 : Kd.C k71 w A0 l0.length l0) (hc0 : l0.length ≤ c0) (h : api_File_48.f l0 = some r) :
  Calls Try.prog 48 #[.slice A0 l0.length c0] w fun e w' => ∃ v0_ : Value, e = .returned (v0_) ∧ Kd.R k71 71 w' w.heap.size (fun _ => True) v0_ r ∧ Below w.heap.size w w' := by
  cases A0 with
  | some a => exact api_File_48.calls_ _ rfl _ _ _ _ hr0 hc0 h
  | none =>
    have hl : l0 = [] := by
      cases l0 with
      | nil => rfl
      | cons x l0 => obtain ⟨_, _, hx⟩ := hr0; obtain ⟨a, ha, _⟩ := hx (by simp); cases ha
    subst hl
    have hr : r = [] := by simpa [api_File_48.f, eq_comm] using h
    subst hr
    have q_ : ∀ (w : World) (n c n' c' : Nat), (binOp .eql 22 (.slice none n c) (.slice none n' c')).run Try.prog w = .ok (.bool true) w := fun w n c n' c' => by rw [Lib.run_eql_slice_nil w _ _ none n c n' c' Try.underlying22]; rfl
    go_enter Try.func48, Try.ntmps48
    go_wp2
    go_ret
    exact ⟨_, rfl, Kd.R_nil _ _ _ _ _, Below.refl _ _⟩

def disk_named.f (a0 : ByteArray) : Option (Bool) := if a0.toList = ([] : List UInt8) then (some false) else (some (decide ((a0.size : Int) ≤ 32)))
theorem disk_named.calls (a0 : ByteArray) (r : Bool) (w : World) (h : disk_named.f a0 = some r) :
  Calls Try.prog 111 #[.string a0] w fun e w' => e = .returned (.bool r) ∧ Drawn0 w w' := by
 have H := h
 unfold disk_named.f at H
 clear h
 by_cases c_1 : a0.toList = ([] : List UInt8)
 rotate_left
 focus
  rw [if_neg c_1] at H
  obtain ⟨c_2, c_3⟩ := bn_ c_1
  obtain rfl := Option.some.inj H
 rotate_left
 rw [if_pos c_1] at H
 obtain ⟨c_2, c_3⟩ := be_ c_1
 clear c_1
 obtain rfl := Option.some.inj H
 all_goals
  go_enter Try.func111, Try.ntmps111
  go_wp2
  go_ret
  exact ⟨fz_, dr_⟩
mutual
def disk_change_refused.j0 : Nat → Int → Bool → Bool → Int → ByteArray → ByteArray → ByteArray → Int → List (S71) → Bool → Int → Option (Int)
 | 0, _, _, _, _, _, _, _, _, _, _, _ => none
 | k + 1, x5, x6, x14, x243000, x243001, x243002, x243003, x243004, x244000, x244001, x244002 => if x14 = true then (some 5) else (if x243000 = 0 then (if x6 = true then (disk_change_refused.j1 k x5 x6 false x243000 x243001 x243002 x243003 x243004 x244000 x244001 x244002) else (disk_change_refused.j1 k x5 x6 (decide ((x244000.length : Int) ≥ 4096)) x243000 x243001 x243002 x243003 x243004 x244000 x244001 x244002)) else (disk_change_refused.j1 k x5 x6 false x243000 x243001 x243002 x243003 x243004 x244000 x244001 x244002))
def disk_change_refused.j1 : Nat → Int → Bool → Bool → Int → ByteArray → ByteArray → ByteArray → Int → List (S71) → Bool → Int → Option (Int)
 | 0, _, _, _, _, _, _, _, _, _, _, _ => none
 | k + 1, x5, x6, x24, x243000, x243001, x243002, x243003, x243004, x244000, x244001, x244002 => if x24 = true then (some 11) else (if x243000 = 0 then (disk_change_refused.j2 k x5 false x243000 x243001 x243002 x243003 x243004 x244000 x244001 x244002) else (disk_change_refused.j2 k x5 (!x6) x243000 x243001 x243002 x243003 x243004 x244000 x244001 x244002))
def disk_change_refused.j2 : Nat → Int → Bool → Int → ByteArray → ByteArray → ByteArray → Int → List (S71) → Bool → Int → Option (Int)
 | 0, _, _, _, _, _, _, _, _, _, _ => none
 | k + 1, x5, x38, x243000, x243001, x243002, x243003, x243004, x244000, x244001, x244002 => if x38 = true then (some 6) else (if x243000 = 2 then (if x243004 < 0 then (disk_change_refused.j3 k x5 true x243000 x243001 x243002 x243003 x243004 x244000 x244001 x244002) else (if 0 ≤ x5 then (if x5 < (x244000.length : Int) then (disk_change_refused.j3 k x5 (decide (x243004 > (((rd_T71 x244000 x5).f1).size : Int))) x243000 x243001 x243002 x243003 x243004 x244000 x244001 x244002) else (none)) else (none))) else (disk_change_refused.j3 k x5 false x243000 x243001 x243002 x243003 x243004 x244000 x244001 x244002))
def disk_change_refused.j3 : Nat → Int → Bool → Int → ByteArray → ByteArray → ByteArray → Int → List (S71) → Bool → Int → Option (Int)
 | 0, _, _, _, _, _, _, _, _, _, _ => none
 | k + 1, x5, x46, x243000, x243001, x243002, x243003, x243004, x244000, x244001, x244002 => if x46 = true then (some 1) else (if x243000 = 3 then (if 0 ≤ x5 then (if x5 < (x244000.length : Int) then (disk_change_refused.j4 k (decide (((rd_T71 x244000 x5).f2) < (((rd_T71 x244000 x5).f1).size : Int))) x243000 x243001 x243002 x243003 x243004) else (none)) else (none)) else (disk_change_refused.j4 k false x243000 x243001 x243002 x243003 x243004))
def disk_change_refused.j4 : Nat → Bool → Int → ByteArray → ByteArray → ByteArray → Int → Option (Int)
 | 0, _, _, _, _, _, _ => none
 | k + 1, x67, x243000, x243001, x243002, x243003, x243004 => if x67 = true then (some 9) else (if x243000 = 3 then ((disk_named.f x243002).bind fun t250 => (if t250 = true then (some 0) else (some 5))) else (some 0))
end
def disk_change_refused.f (k : Nat) (a0_0 : Int) (a0_1 : ByteArray) (a0_2 : ByteArray) (a0_3 : ByteArray) (a0_4 : Int) (l1_0 : List (S71)) (a1_1 : Bool) (a1_2 : Int) : Option (Int) := (disk_place.f k l1_0 a1_1 a1_2 a0_1).bind fun bt244 => (if a0_0 = 0 then ((disk_named.f a0_1).bind fun t246 => (disk_change_refused.j0 k bt244.1 bt244.2 (!t246) a0_0 a0_1 a0_2 a0_3 a0_4 l1_0 a1_1 a1_2)) else (disk_change_refused.j0 k bt244.1 bt244.2 false a0_0 a0_1 a0_2 a0_3 a0_4 l1_0 a1_1 a1_2))
theorem disk_change_refused.mono_l : ∀ k, (∀ y0 y1 y2 y3 y4 y5 y6 y7 y8 y9 y10, LeO (disk_change_refused.j0 k y0 y1 y2 y3 y4 y5 y6 y7 y8 y9 y10) (disk_change_refused.j0 (k + 1) y0 y1 y2 y3 y4 y5 y6 y7 y8 y9 y10)) ∧ (∀ y0 y1 y2 y3 y4 y5 y6 y7 y8 y9 y10, LeO (disk_change_refused.j1 k y0 y1 y2 y3 y4 y5 y6 y7 y8 y9 y10) (disk_change_refused.j1 (k + 1) y0 y1 y2 y3 y4 y5 y6 y7 y8 y9 y10)) ∧ (∀ y0 y1 y2 y3 y4 y5 y6 y7 y8 y9, LeO (disk_change_refused.j2 k y0 y1 y2 y3 y4 y5 y6 y7 y8 y9) (disk_change_refused.j2 (k + 1) y0 y1 y2 y3 y4 y5 y6 y7 y8 y9)) ∧ (∀ y0 y1 y2 y3 y4 y5 y6 y7 y8 y9, LeO (disk_change_refused.j3 k y0 y1 y2 y3 y4 y5 y6 y7 y8 y9) (disk_change_refused.j3 (k + 1) y0 y1 y2 y3 y4 y5 y6 y7 y8 y9)) ∧ (∀ y0 y1 y2 y3 y4 y5, LeO (disk_change_refused.j4 k y0 y1 y2 y3 y4 y5) (disk_change_refused.j4 (k + 1) y0 y1 y2 y3 y4 y5))
 | 0 => ⟨fun _ _ _ _ _ _ _ _ _ _ _ r h => by simp [disk_change_refused.j0] at h, fun _ _ _ _ _ _ _ _ _ _ _ r h => by simp [disk_change_refused.j1] at h, fun _ _ _ _ _ _ _ _ _ _ r h => by simp [disk_change_refused.j2] at h, fun _ _ _ _ _ _ _ _ _ _ r h => by simp [disk_change_refused.j3] at h, fun _ _ _ _ _ _ r h => by simp [disk_change_refused.j4] at h⟩
 | k + 1 => by
  obtain ⟨ih0, ih1, ih2, ih3, ih4⟩ := disk_change_refused.mono_l k
  refine ⟨?_, ?_, ?_, ?_, ?_⟩
  ·intro y0 y1 y2 y3 y4 y5 y6 y7 y8 y9 y10
   unfold disk_change_refused.j0
   repeat' with_reducible first | apply ih0 | apply ih1 | apply ih2 | apply ih3 | apply ih4 | apply disk_place.mono | apply LeO.refl | apply LeO.none | apply LeO.ite | refine LeO.bind ?_ (fun _ => ?_)
  ·intro y0 y1 y2 y3 y4 y5 y6 y7 y8 y9 y10
   unfold disk_change_refused.j1
   repeat' with_reducible first | apply ih0 | apply ih1 | apply ih2 | apply ih3 | apply ih4 | apply disk_place.mono | apply LeO.refl | apply LeO.none | apply LeO.ite | refine LeO.bind ?_ (fun _ => ?_)
  ·intro y0 y1 y2 y3 y4 y5 y6 y7 y8 y9
   unfold disk_change_refused.j2
   repeat' with_reducible first | apply ih0 | apply ih1 | apply ih2 | apply ih3 | apply ih4 | apply disk_place.mono | apply LeO.refl | apply LeO.none | apply LeO.ite | refine LeO.bind ?_ (fun _ => ?_)
  ·intro y0 y1 y2 y3 y4 y5 y6 y7 y8 y9
   unfold disk_change_refused.j3
   repeat' with_reducible first | apply ih0 | apply ih1 | apply ih2 | apply ih3 | apply ih4 | apply disk_place.mono | apply LeO.refl | apply LeO.none | apply LeO.ite | refine LeO.bind ?_ (fun _ => ?_)
  ·intro y0 y1 y2 y3 y4 y5
   unfold disk_change_refused.j4
   repeat' with_reducible first | apply ih0 | apply ih1 | apply ih2 | apply ih3 | apply ih4 | apply disk_place.mono | apply LeO.refl | apply LeO.none | apply LeO.ite | refine LeO.bind ?_ (fun _ => ?_)
theorem disk_change_refused.mono : ∀ a0 a1 a2 a3 a4 a5 a6 a7 k, LeO (disk_change_refused.f k a0 a1 a2 a3 a4 a5 a6 a7) (disk_change_refused.f (k + 1) a0 a1 a2 a3 a4 a5 a6 a7) := by
 intro a0 a1 a2 a3 a4 a5 a6 a7 k
 obtain ⟨ih0, ih1, ih2, ih3, ih4⟩ := disk_change_refused.mono_l k
 unfold disk_change_refused.f
 repeat' with_reducible first | apply ih0 | apply ih1 | apply ih2 | apply ih3 | apply ih4 | apply disk_place.mono | apply LeO.refl | apply LeO.none | apply LeO.ite | refine LeO.bind ?_ (fun _ => ?_)
theorem disk_change_refused.calls (k : Nat) (a0_0 : Int) (a0_1 : ByteArray) (a0_2 : ByteArray) (a0_3 : ByteArray) (a0_4 : Int) (A1_0 : Option Addr) (c1_0 : Nat) (l1_0 : List (S71)) (a1_1 : Bool) (a1_2 : Int) (r : Int) (w : World) (hr1_0 : Kd.C k71 w A1_0 l1_0.length l1_0) (hc1_0 : l1_0.length ≤ c1_0) (h : disk_change_refused.f k a0_0 a0_1 a0_2 a0_3 a0_4 l1_0 a1_1 a1_2 = some r) :
  Calls Try.prog 107 #[.agg #[.int .u8 a0_0, .string a0_1, .string a0_2, .string a0_3, .int .i64 a0_4], .agg #[.slice A1_0 l1_0.length c1_0, .bool a1_1, .int .i64 a1_2]] w fun e w' => e = .returned (.int .i64 r) ∧ Below w.heap.size w w' := by
 have hu_1 := Try.underlying115
 have hu_2 := Try.underlying24
 have HR_1 := a_ hr1_0
 have HC_1 := a_ hc1_0
 clear hr1_0 hc1_0
 have HB := a_ (Below.refl w.heap.size w)
 have H := h
 unfold disk_change_refused.f at H
 clear h
 obtain ⟨⟨t_1, t_2⟩, A_2, H⟩ := ob_ H
 try dsimp only at H
 have HC_2 := a_ H
 clear H
 go_enter Try.func107, Try.ntmps107
 go_upto_region 2 with (first | ((with_reducible refine gd_ 2 ?_); (try (refine gate_guard (by rfl) ?_; dsimp only)); refine bz_ 2 #[.int .u8 a0_0, .string a0_1, .string a0_2, .string a0_3, .int .i64 a0_4] 115 ?_; intro gb_1 hg w_1 BK_1 hb; have GE_1 := a_ (bs_0 hg HB); replace HB := hB_ (bl_ HB) hb; clear hb hg) | ((with_reducible refine gd_ 3 ?_); (try (refine gate_guard (by rfl) ?_; dsimp only)); refine bz_ 3 #[.slice A1_0 l1_0.length c1_0, .bool a1_1, .int .i64 a1_2] 24 ?_; intro gb_2 hg w_2 BK_2 hb; have GE_2 := a_ (bs_1 hg HB GE_1); replace HB := hB_ (bl_1 HB GE_1) hb; have NB_1 := nB_ hg BK_1; have NB_2 := nC_ hg BK_1; replace BK_1 := bB_ BK_1 hb; clear hb hg; have := NB_2.out; have := NB_1.out; obtain ⟨_, _, _, _, _, _⟩ := c3_ BK_2; obtain ⟨_, _, _, _, _, _, _, _, _, _⟩ := c5_ BK_1) | (go_at_call 50; (with_reducible refine (disk_place.calls _ _ _ _ _ _ _ _ _ _ ?side1 ?side2 A_2.out).mono ?_); (case side1 => exact cl_ (Kd.C_below HR_1.out HB.out)); (case side2 => exact HC_1.out); rintro e w_3 ⟨rfl, hb⟩; replace BK_1 := bB_ BK_1 hb; replace BK_2 := bB_ BK_2 hb; replace HB := hB_ (bl_2 HB GE_1 GE_2) hb; (try clear hb)))
 repeat (go_quiet (first | ((with_reducible refine gd_ 2 ?_); (try (refine gate_guard (by rfl) ?_; dsimp only)); refine bz_ 2 #[.int .u8 a0_0, .string a0_1, .string a0_2, .string a0_3, .int .i64 a0_4] 115 ?_; intro gb_1 hg w_1 BK_1 hb; have GE_1 := a_ (bs_0 hg HB); replace HB := hB_ (bl_ HB) hb; clear hb hg) | ((with_reducible refine gd_ 3 ?_); (try (refine gate_guard (by rfl) ?_; dsimp only)); refine bz_ 3 #[.slice A1_0 l1_0.length c1_0, .bool a1_1, .int .i64 a1_2] 24 ?_; intro gb_2 hg w_2 BK_2 hb; have GE_2 := a_ (bs_1 hg HB GE_1); replace HB := hB_ (bl_1 HB GE_1) hb; have NB_1 := nB_ hg BK_1; have NB_2 := nC_ hg BK_1; replace BK_1 := bB_ BK_1 hb; clear hb hg; have := NB_2.out; have := NB_1.out; obtain ⟨_, _, _, _, _, _⟩ := c3_ BK_2; obtain ⟨_, _, _, _, _, _, _, _, _, _⟩ := c5_ BK_1) | (go_at_call 50; (with_reducible refine (disk_place.calls _ _ _ _ _ _ _ _ _ _ ?side1 ?side2 A_2.out).mono ?_); (case side1 => exact cl_ (Kd.C_below HR_1.out HB.out)); (case side2 => exact HC_1.out); rintro e w_3 ⟨rfl, hb⟩; replace BK_1 := bB_ BK_1 hb; replace BK_2 := bB_ BK_2 hb; replace HB := hB_ (bl_2 HB GE_1 GE_2) hb; (try clear hb))); go_upto_region 2 with (first | ((with_reducible refine gd_ 2 ?_); (try (refine gate_guard (by rfl) ?_; dsimp only)); refine bz_ 2 #[.int .u8 a0_0, .string a0_1, .string a0_2, .string a0_3, .int .i64 a0_4] 115 ?_; intro gb_1 hg w_1 BK_1 hb; have GE_1 := a_ (bs_0 hg HB); replace HB := hB_ (bl_ HB) hb; clear hb hg) | ((with_reducible refine gd_ 3 ?_); (try (refine gate_guard (by rfl) ?_; dsimp only)); refine bz_ 3 #[.slice A1_0 l1_0.length c1_0, .bool a1_1, .int .i64 a1_2] 24 ?_; intro gb_2 hg w_2 BK_2 hb; have GE_2 := a_ (bs_1 hg HB GE_1); replace HB := hB_ (bl_1 HB GE_1) hb; have NB_1 := nB_ hg BK_1; have NB_2 := nC_ hg BK_1; replace BK_1 := bB_ BK_1 hb; clear hb hg; have := NB_2.out; have := NB_1.out; obtain ⟨_, _, _, _, _, _⟩ := c3_ BK_2; obtain ⟨_, _, _, _, _, _, _, _, _, _⟩ := c5_ BK_1) | (go_at_call 50; (with_reducible refine (disk_place.calls _ _ _ _ _ _ _ _ _ _ ?side1 ?side2 A_2.out).mono ?_); (case side1 => exact cl_ (Kd.C_below HR_1.out HB.out)); (case side2 => exact HC_1.out); rintro e w_3 ⟨rfl, hb⟩; replace BK_1 := bB_ BK_1 hb; replace BK_2 := bB_ BK_2 hb; replace HB := hB_ (bl_2 HB GE_1 GE_2) hb; (try clear hb))))
 (try simp only [Act.put, List.setIfInBounds_toArray, List.set_cons_zero, List.set_cons_succ])
 go_cut [14] (fun v14 wc => ∃ (kq : Nat) (x14_3 : Bool), v14 = .bool x14_3 ∧ Aside0 (disk_change_refused.j0 kq t_1 t_2 x14_3 a0_0 a0_1 a0_2 a0_3 a0_4 l1_0 a1_1 a1_2 = some r) ∧ Aside0 (kq ≤ k) ∧ Aside0 (wc.heap[gb_1]? = some (.cells #[.int .u8 a0_0, .string a0_1, .string a0_2, .string a0_3, .int .i64 a0_4] 115 (0, 0))) ∧ Aside0 (wc.heap[gb_2]? = some (.cells #[(.slice A1_0 l1_0.length c1_0), .bool a1_1, .int .i64 a1_2] 24 (0, 0))) ∧ Aside0 (Below w.heap.size w wc))
 case first =>
  have H := HC_2.out
  clear HC_2
  by_cases c_1 : a0_0 = 0
  rotate_left
  focus
   rw [if_neg c_1] at H
   obtain ⟨c_2, c_3⟩ := bn_ c_1
   (first | rw [c_2] | (simp only [i64_w, i32_w]; rw [c_2]) | skip)
   have H' := a_ H
   clear H
   have := NB_1.out
   have := NB_2.out
   obtain ⟨_, _, _, _, _, _, _, _, _, _⟩ := c5_ BK_1
   have L0_ := trivial
  rotate_left
  rw [if_pos c_1] at H
  obtain ⟨c_2, c_3⟩ := be_ c_1
  clear c_1
  (first | rw [c_2] | (simp only [i64_w, i32_w]; rw [c_2]) | skip)
  obtain ⟨t_3, A_4, H⟩ := ob_ H
  try dsimp only at H
  have H' := a_ H
  clear H
  have := NB_1.out
  have := NB_2.out
  obtain ⟨_, _, _, _, _, _, _, _, _, _⟩ := c5_ BK_1
  have L1_ := trivial
  all_goals
   first
   | (have _ := L0_
      go_wp2
      repeat (go_quiet (fail); try go_wp2)
      go_meet
      case rel => exact ⟨_, (false), fz_, H', ⟨by first | omega | exact Nat.le_refl _⟩, ⟨bk_ BK_1⟩, ⟨bk_ BK_2⟩, ⟨bl_2 HB GE_1 GE_2⟩⟩)
   | (have _ := L1_
      go_wp2_with (first | (go_at_call 111; (with_reducible refine (disk_named.calls _ _ _ A_4.out).mono ?_); rintro e w' ⟨rfl, ⟨nd, rfl⟩⟩; (try first | exact ⟨rfl, _, World.drewN_drewN _ _ _⟩ | exact ⟨rfl, _, Eq.trans (World.drewN_drewN _ _ _) (congrArg (World.drewN _) (Nat.add_assoc _ _ _))⟩)) | go_quiet (first | (go_at_call 111; (with_reducible refine (disk_named.calls _ _ _ A_4.out).mono ?_); rintro e w' ⟨rfl, ⟨nd, rfl⟩⟩; (try first | exact ⟨rfl, _, World.drewN_drewN _ _ _⟩ | exact ⟨rfl, _, Eq.trans (World.drewN_drewN _ _ _) (congrArg (World.drewN _) (Nat.add_assoc _ _ _))⟩))))
      go_meet
      case rel => exact ⟨_, (!t_3), fz_, H', ⟨by first | omega | exact Nat.le_refl _⟩, ⟨bk_ BK_1⟩, ⟨bk_ BK_2⟩, ⟨bl_2 HB GE_1 GE_2⟩⟩)
 case rest =>
  clear HC_2
  obtain ⟨kq, x_1, rfl, HA, HJ_1, BK_1, BK_2, HB⟩ := hcut
  cases kq with
  | zero => exact absurd HA.out (by simp [disk_change_refused.j0])
  | succ kj3 =>
   have H := HA.out
   clear HA
   simp only [disk_change_refused.j0] at H
   by_cases c_2 : x_1 = true
   ·subst c_2
    rw [if_pos rfl] at H
    obtain rfl := Option.some.inj H
    go_wp2
    repeat (go_quiet (fail); try go_wp2)
    go_ret
    exact ⟨fz_, bl_2 HB GE_1 GE_2⟩
   replace c_2 := Bool.eq_false_iff.mpr c_2
   subst c_2
   rw [if_neg (show ¬ (false = true) by decide)] at H
   have HC_3 := a_ H
   clear H
   go_upto_region 4 with (fail)
   repeat (go_quiet (fail); go_upto_region 4 with (fail))
   go_cut [24] (fun v24 wc => ∃ (kq : Nat) (x24_17 : Bool), v24 = .bool x24_17 ∧ Aside0 (disk_change_refused.j1 kq t_1 t_2 x24_17 a0_0 a0_1 a0_2 a0_3 a0_4 l1_0 a1_1 a1_2 = some r) ∧ Aside0 (kq ≤ kj3) ∧ Aside0 (wc.heap[gb_1]? = some (.cells #[.int .u8 a0_0, .string a0_1, .string a0_2, .string a0_3, .int .i64 a0_4] 115 (0, 0))) ∧ Aside0 (wc.heap[gb_2]? = some (.cells #[(.slice A1_0 l1_0.length c1_0), .bool a1_1, .int .i64 a1_2] 24 (0, 0))) ∧ Aside0 (Below w.heap.size w wc))
   case first =>
    have H := HC_3.out
    clear HC_3
    by_cases c_3 : a0_0 = 0
    rotate_left
    ·rw [if_neg c_3] at H
     obtain ⟨c_4, c_5⟩ := bn_ c_3
     (first | rw [c_4] | (simp only [i64_w, i32_w]; rw [c_4]) | skip)
     have H' := a_ H
     clear H
     have := NB_1.out
     have := NB_2.out
     obtain ⟨_, _, _, _, _, _, _, _, _, _⟩ := c5_ BK_1
     go_wp2
     repeat (go_quiet (fail); try go_wp2)
     go_meet
     case rel => exact ⟨_, (false), fz_, H', ⟨by have := HJ_1.out; first | omega | exact Nat.le_refl _⟩, ⟨bk_ BK_1⟩, ⟨bk_ BK_2⟩, ⟨bl_2 HB GE_1 GE_2⟩⟩
    rw [if_pos c_3] at H
    obtain ⟨c_4, c_5⟩ := be_ c_3
    clear c_3
    (first | rw [c_4] | (simp only [i64_w, i32_w]; rw [c_4]) | skip)
    by_cases c_6 : t_2 = true
    ·subst c_6
     rw [if_pos rfl] at H
     have H' := a_ H
     clear H
     have := NB_1.out
     have := NB_2.out
     obtain ⟨_, _, _, _, _, _, _, _, _, _⟩ := c5_ BK_1
     go_wp2
     repeat (go_quiet (fail); try go_wp2)
     go_meet
     case rel => exact ⟨_, (false), fz_, H', ⟨by have := HJ_1.out; first | omega | exact Nat.le_refl _⟩, ⟨bk_ BK_1⟩, ⟨bk_ BK_2⟩, ⟨bl_2 HB GE_1 GE_2⟩⟩
    replace c_6 := Bool.eq_false_iff.mpr c_6
    subst c_6
    rw [if_neg (show ¬ (false = true) by decide)] at H
    have H' := a_ H
    clear H
    have := NB_1.out
    have := NB_2.out
    obtain ⟨_, _, _, _, _, _, _, _, _, _⟩ := c5_ BK_1
    obtain ⟨_, _, _, _, _, _⟩ := c3_ BK_2
    go_wp2
    repeat (go_quiet (fail); try go_wp2)
    go_meet
    case rel => exact ⟨_, (decide ((l1_0.length : Int) ≥ 4096)), fz_, H', ⟨by have := HJ_1.out; first | omega | exact Nat.le_refl _⟩, ⟨bk_ BK_1⟩, ⟨bk_ BK_2⟩, ⟨bl_2 HB GE_1 GE_2⟩⟩
   case rest =>
    clear HC_3
    try clear c_2
    obtain ⟨kq, x_2, rfl, HA, HJ_2, BK_1, BK_2, HB⟩ := hcut
    cases kq with
    | zero => exact absurd HA.out (by simp [disk_change_refused.j1])
    | succ kj17 =>
     have H := HA.out
     clear HA
     simp only [disk_change_refused.j1] at H
     by_cases c_7 : x_2 = true
     ·subst c_7
      rw [if_pos rfl] at H
      obtain rfl := Option.some.inj H
      go_wp2
      repeat (go_quiet (fail); try go_wp2)
      go_ret
      exact ⟨fz_, bl_2 HB GE_1 GE_2⟩
     replace c_7 := Bool.eq_false_iff.mpr c_7
     subst c_7
     rw [if_neg (show ¬ (false = true) by decide)] at H
     have HC_4 := a_ H
     clear H
     go_upto_region 6 with (fail)
     repeat (go_quiet (fail); go_upto_region 6 with (fail))
     go_cut [38] (fun v38 wc => ∃ (kq : Nat) (x38_28 : Bool), v38 = .bool x38_28 ∧ Aside0 (disk_change_refused.j2 kq t_1 x38_28 a0_0 a0_1 a0_2 a0_3 a0_4 l1_0 a1_1 a1_2 = some r) ∧ Aside0 (kq ≤ kj17) ∧ Aside0 (wc.heap[gb_1]? = some (.cells #[.int .u8 a0_0, .string a0_1, .string a0_2, .string a0_3, .int .i64 a0_4] 115 (0, 0))) ∧ Aside0 (wc.heap[gb_2]? = some (.cells #[(.slice A1_0 l1_0.length c1_0), .bool a1_1, .int .i64 a1_2] 24 (0, 0))) ∧ Aside0 (Below w.heap.size w wc))
     case first =>
      have H := HC_4.out
      clear HC_4
      by_cases c_8 : a0_0 = 0
      rotate_left
      ·rw [if_neg c_8] at H
       obtain ⟨c_9, c_10⟩ := bn_ c_8
       (first | rw [c_9] | (simp only [i64_w, i32_w]; rw [c_9]) | skip)
       have H' := a_ H
       clear H
       have := NB_1.out
       have := NB_2.out
       obtain ⟨_, _, _, _, _, _, _, _, _, _⟩ := c5_ BK_1
       go_wp2
       repeat (go_quiet (fail); try go_wp2)
       go_meet
       case rel => exact ⟨_, (!t_2), fz_, H', ⟨by have := HJ_1.out; have := HJ_2.out; first | omega | exact Nat.le_refl _⟩, ⟨bk_ BK_1⟩, ⟨bk_ BK_2⟩, ⟨bl_2 HB GE_1 GE_2⟩⟩
      rw [if_pos c_8] at H
      obtain ⟨c_9, c_10⟩ := be_ c_8
      clear c_8
      (first | rw [c_9] | (simp only [i64_w, i32_w]; rw [c_9]) | skip)
      have H' := a_ H
      clear H
      have := NB_1.out
      have := NB_2.out
      obtain ⟨_, _, _, _, _, _, _, _, _, _⟩ := c5_ BK_1
      go_wp2
      repeat (go_quiet (fail); try go_wp2)
      go_meet
      case rel => exact ⟨_, (false), fz_, H', ⟨by have := HJ_1.out; have := HJ_2.out; first | omega | exact Nat.le_refl _⟩, ⟨bk_ BK_1⟩, ⟨bk_ BK_2⟩, ⟨bl_2 HB GE_1 GE_2⟩⟩
     case rest =>
      clear HC_4
      try clear c_2
      try clear c_7
      obtain ⟨kq, x_3, rfl, HA, HJ_3, BK_1, BK_2, HB⟩ := hcut
      cases kq with
      | zero => exact absurd HA.out (by simp [disk_change_refused.j2])
      | succ kj28 =>
       have H := HA.out
       clear HA
       simp only [disk_change_refused.j2] at H
       by_cases c_11 : x_3 = true
       ·subst c_11
        rw [if_pos rfl] at H
        obtain rfl := Option.some.inj H
        go_wp2
        repeat (go_quiet (fail); try go_wp2)
        go_ret
        exact ⟨fz_, bl_2 HB GE_1 GE_2⟩
       replace c_11 := Bool.eq_false_iff.mpr c_11
       subst c_11
       rw [if_neg (show ¬ (false = true) by decide)] at H
       have HC_5 := a_ H
       clear H
       go_upto_region 8 with (fail)
       repeat (go_quiet (fail); go_upto_region 8 with (fail))
       go_cut [46] (fun v46 wc => ∃ (kq : Nat) (x46_35 : Bool), v46 = .bool x46_35 ∧ Aside0 (disk_change_refused.j3 kq t_1 x46_35 a0_0 a0_1 a0_2 a0_3 a0_4 l1_0 a1_1 a1_2 = some r) ∧ Aside0 (kq ≤ kj28) ∧ Aside0 (wc.heap[gb_1]? = some (.cells #[.int .u8 a0_0, .string a0_1, .string a0_2, .string a0_3, .int .i64 a0_4] 115 (0, 0))) ∧ Aside0 (wc.heap[gb_2]? = some (.cells #[(.slice A1_0 l1_0.length c1_0), .bool a1_1, .int .i64 a1_2] 24 (0, 0))) ∧ Aside0 (Below w.heap.size w wc))
       case first =>
        have H := HC_5.out
        clear HC_5
        by_cases c_12 : a0_0 = 2
        rotate_left
        ·rw [if_neg c_12] at H
         obtain ⟨c_13, c_14⟩ := bn_ c_12
         (first | rw [c_13] | (simp only [i64_w, i32_w]; rw [c_13]) | skip)
         have H' := a_ H
         clear H
         have := NB_1.out
         have := NB_2.out
         obtain ⟨_, _, _, _, _, _, _, _, _, _⟩ := c5_ BK_1
         go_wp2
         repeat (go_quiet (fail); try go_wp2)
         go_meet
         case rel => exact ⟨_, (false), fz_, H', ⟨by have := HJ_1.out; have := HJ_2.out; have := HJ_3.out; first | omega | exact Nat.le_refl _⟩, ⟨bk_ BK_1⟩, ⟨bk_ BK_2⟩, ⟨bl_2 HB GE_1 GE_2⟩⟩
        rw [if_pos c_12] at H
        obtain ⟨c_13, c_14⟩ := be_ c_12
        clear c_12
        (first | rw [c_13] | (simp only [i64_w, i32_w]; rw [c_13]) | skip)
        by_cases c_15 : a0_4 < 0
        ·rw [if_pos c_15] at H
         have c_16 : decide (a0_4 < 0) = true := decide_eq_true c_15
         clear c_15
         have H' := a_ H
         clear H
         have := NB_1.out
         have := NB_2.out
         obtain ⟨_, _, _, _, _, _, _, _, _, _⟩ := c5_ BK_1
         go_wp2
         repeat (go_quiet (fail); try go_wp2)
         go_meet
         case rel => exact ⟨_, (true), fz_, H', ⟨by have := HJ_1.out; have := HJ_2.out; have := HJ_3.out; first | omega | exact Nat.le_refl _⟩, ⟨bk_ BK_1⟩, ⟨bk_ BK_2⟩, ⟨bl_2 HB GE_1 GE_2⟩⟩
        rw [if_neg c_15] at H
        have c_16 : decide (a0_4 < 0) = false := decide_eq_false c_15
        clear c_15
        replace H := ip_ H
        obtain ⟨-, c_18, H⟩ := H
        replace H := ip_ H
        obtain ⟨-, c_20, H⟩ := H
        have H' := a_ H
        clear H
        have := NB_1.out
        have := NB_2.out
        obtain ⟨_, _, _, _, _, _, _, _, _, _⟩ := c5_ BK_1
        obtain ⟨_, _, _, _, _, _⟩ := c3_ BK_2
        have p_1 : 0 ≤ (t_1 : Int) := od_
        have q_1 : t_1 < (l1_0.length : Int) := od_
        obtain ⟨ad_1, e_1, hx_1, hx_2, hx_3⟩ := at_T71 HR_1.out t_1 p_1 q_1
        cases e_1
        replace hx_1 := hc_ HB hx_1
        replace hx_2 := hc_ HB hx_2
        replace hx_3 := hc_ HB hx_3
        replace p_1 := eq_true p_1
        replace q_1 := eq_true q_1
        go_wp2
        repeat (go_quiet (fail); try go_wp2)
        go_meet
        case rel => exact ⟨_, (decide (a0_4 > (((rd_T71 l1_0 t_1).f1).size : Int))), fz_, H', ⟨by have := HJ_1.out; have := HJ_2.out; have := HJ_3.out; first | omega | exact Nat.le_refl _⟩, ⟨bk_ BK_1⟩, ⟨bk_ BK_2⟩, ⟨bl_2 HB GE_1 GE_2⟩⟩
       case rest =>
        clear HC_5
        try clear c_2
        try clear c_7
        try clear c_11
        obtain ⟨kq, x_4, rfl, HA, HJ_4, BK_1, BK_2, HB⟩ := hcut
        cases kq with
        | zero => exact absurd HA.out (by simp [disk_change_refused.j3])
        | succ kj35 =>
         have H := HA.out
         clear HA
         simp only [disk_change_refused.j3] at H
         by_cases c_21 : x_4 = true
         ·subst c_21
          rw [if_pos rfl] at H
          obtain rfl := Option.some.inj H
          go_wp2
          repeat (go_quiet (fail); try go_wp2)
          go_ret
          exact ⟨fz_, bl_2 HB GE_1 GE_2⟩
         replace c_21 := Bool.eq_false_iff.mpr c_21
         subst c_21
         rw [if_neg (show ¬ (false = true) by decide)] at H
         have HC_6 := a_ H
         clear H
         go_upto_region 10 with (fail)
         repeat (go_quiet (fail); go_upto_region 10 with (fail))
         go_cut [67] (fun v67 wc => ∃ (kq : Nat) (x67_48 : Bool), v67 = .bool x67_48 ∧ Aside0 (disk_change_refused.j4 kq x67_48 a0_0 a0_1 a0_2 a0_3 a0_4 = some r) ∧ Aside0 (kq ≤ kj35) ∧ Aside0 (wc.heap[gb_1]? = some (.cells #[.int .u8 a0_0, .string a0_1, .string a0_2, .string a0_3, .int .i64 a0_4] 115 (0, 0))) ∧ Aside0 (wc.heap[gb_2]? = some (.cells #[(.slice A1_0 l1_0.length c1_0), .bool a1_1, .int .i64 a1_2] 24 (0, 0))) ∧ Aside0 (Below w.heap.size w wc))
         case first =>
          have H := HC_6.out
          clear HC_6
          by_cases c_22 : a0_0 = 3
          rotate_left
          ·rw [if_neg c_22] at H
           obtain ⟨c_23, c_24⟩ := bn_ c_22
           (first | rw [c_23] | (simp only [i64_w, i32_w]; rw [c_23]) | skip)
           have H' := a_ H
           clear H
           have := NB_1.out
           have := NB_2.out
           obtain ⟨_, _, _, _, _, _, _, _, _, _⟩ := c5_ BK_1
           go_wp2
           repeat (go_quiet (fail); try go_wp2)
           go_meet
           case rel => exact ⟨_, (false), fz_, H', ⟨by have := HJ_1.out; have := HJ_2.out; have := HJ_3.out; have := HJ_4.out; first | omega | exact Nat.le_refl _⟩, ⟨bk_ BK_1⟩, ⟨bk_ BK_2⟩, ⟨bl_2 HB GE_1 GE_2⟩⟩
          rw [if_pos c_22] at H
          obtain ⟨c_23, c_24⟩ := be_ c_22
          clear c_22
          (first | rw [c_23] | (simp only [i64_w, i32_w]; rw [c_23]) | skip)
          replace H := ip_ H
          obtain ⟨-, c_26, H⟩ := H
          replace H := ip_ H
          obtain ⟨-, c_28, H⟩ := H
          have H' := a_ H
          clear H
          have := NB_1.out
          have := NB_2.out
          obtain ⟨_, _, _, _, _, _, _, _, _, _⟩ := c5_ BK_1
          obtain ⟨_, _, _, _, _, _⟩ := c3_ BK_2
          have p_2 : 0 ≤ (t_1 : Int) := od_
          have q_2 : t_1 < (l1_0.length : Int) := od_
          obtain ⟨ad_2, e_2, hx_4, hx_5, hx_6⟩ := at_T71 HR_1.out t_1 p_2 q_2
          cases e_2
          replace hx_4 := hc_ HB hx_4
          replace hx_5 := hc_ HB hx_5
          replace hx_6 := hc_ HB hx_6
          replace p_2 := eq_true p_2
          replace q_2 := eq_true q_2
          have p_3 : 0 ≤ (t_1 : Int) := od_
          have q_3 : t_1 < (l1_0.length : Int) := od_
          obtain ⟨ad_3, e_3, hx_7, hx_8, hx_9⟩ := at_T71 HR_1.out t_1 p_3 q_3
          obtain rfl : ad_2 = ad_3 := (by injection e_3)
          replace hx_7 := hc_ HB hx_7
          replace hx_8 := hc_ HB hx_8
          replace hx_9 := hc_ HB hx_9
          replace p_3 := eq_true p_3
          replace q_3 := eq_true q_3
          go_wp2
          repeat (go_quiet (fail); try go_wp2)
          go_meet
          case rel => exact ⟨_, (decide (((rd_T71 l1_0 t_1).f2) < (((rd_T71 l1_0 t_1).f1).size : Int))), fz_, H', ⟨by have := HJ_1.out; have := HJ_2.out; have := HJ_3.out; have := HJ_4.out; first | omega | exact Nat.le_refl _⟩, ⟨bk_ BK_1⟩, ⟨bk_ BK_2⟩, ⟨bl_2 HB GE_1 GE_2⟩⟩
         case rest =>
          clear HC_6
          try clear c_2
          try clear c_7
          try clear c_11
          try clear c_21
          obtain ⟨kq, x_5, rfl, HA, HJ_5, BK_1, BK_2, HB⟩ := hcut
          cases kq with
          | zero => exact absurd HA.out (by simp [disk_change_refused.j4])
          | succ kj48 =>
           have H := HA.out
           clear HA
           simp only [disk_change_refused.j4] at H
           by_cases c_29 : x_5 = true
           ·subst c_29
            rw [if_pos rfl] at H
            obtain rfl := Option.some.inj H
            go_wp2
            repeat (go_quiet (fail); try go_wp2)
            go_ret
            exact ⟨fz_, bl_2 HB GE_1 GE_2⟩
           replace c_29 := Bool.eq_false_iff.mpr c_29
           subst c_29
           rw [if_neg (show ¬ (false = true) by decide)] at H
           by_cases c_30 : a0_0 = 3
           rotate_left
           ·rw [if_neg c_30] at H
            obtain ⟨c_31, c_32⟩ := bn_ c_30
            obtain rfl := Option.some.inj H
            have := NB_1.out
            have := NB_2.out
            obtain ⟨_, _, _, _, _, _, _, _, _, _⟩ := c5_ BK_1
            go_wp2
            repeat (go_quiet (fail); try go_wp2)
            go_ret
            exact ⟨fz_, bl_2 HB GE_1 GE_2⟩
           rw [if_pos c_30] at H
           obtain ⟨c_31, c_32⟩ := be_ c_30
           clear c_30
           obtain ⟨t_3, A_4, H⟩ := ob_ H
           try dsimp only at H
           by_cases c_33 : t_3 = true
           ·subst c_33
            rw [if_pos rfl] at H
            obtain rfl := Option.some.inj H
            have := NB_1.out
            have := NB_2.out
            obtain ⟨_, _, _, _, _, _, _, _, _, _⟩ := c5_ BK_1
            go_wp2_with (first | (go_at_call 111; (with_reducible refine (disk_named.calls _ _ _ A_4.out).mono ?_); rintro e w' ⟨rfl, ⟨nd, rfl⟩⟩; (try first | exact ⟨rfl, _, World.drewN_drewN _ _ _⟩ | exact ⟨rfl, _, Eq.trans (World.drewN_drewN _ _ _) (congrArg (World.drewN _) (Nat.add_assoc _ _ _))⟩)) | go_quiet (first | (go_at_call 111; (with_reducible refine (disk_named.calls _ _ _ A_4.out).mono ?_); rintro e w' ⟨rfl, ⟨nd, rfl⟩⟩; (try first | exact ⟨rfl, _, World.drewN_drewN _ _ _⟩ | exact ⟨rfl, _, Eq.trans (World.drewN_drewN _ _ _) (congrArg (World.drewN _) (Nat.add_assoc _ _ _))⟩))))
            go_ret
            exact ⟨fz_, bl_2 HB GE_1 GE_2⟩
           replace c_33 := Bool.eq_false_iff.mpr c_33
           subst c_33
           rw [if_neg (show ¬ (false = true) by decide)] at H
           obtain rfl := Option.some.inj H
           have := NB_1.out
           have := NB_2.out
           obtain ⟨_, _, _, _, _, _, _, _, _, _⟩ := c5_ BK_1
           go_wp2_with (first | (go_at_call 111; (with_reducible refine (disk_named.calls _ _ _ A_4.out).mono ?_); rintro e w' ⟨rfl, ⟨nd, rfl⟩⟩; (try first | exact ⟨rfl, _, World.drewN_drewN _ _ _⟩ | exact ⟨rfl, _, Eq.trans (World.drewN_drewN _ _ _) (congrArg (World.drewN _) (Nat.add_assoc _ _ _))⟩)) | go_quiet (first | (go_at_call 111; (with_reducible refine (disk_named.calls _ _ _ A_4.out).mono ?_); rintro e w' ⟨rfl, ⟨nd, rfl⟩⟩; (try first | exact ⟨rfl, _, World.drewN_drewN _ _ _⟩ | exact ⟨rfl, _, Eq.trans (World.drewN_drewN _ _ _) (congrArg (World.drewN _) (Nat.add_assoc _ _ _))⟩))))
           go_ret
           exact ⟨fz_, bl_2 HB GE_1 GE_2⟩
end Go.Proofs.Ytpigjmjbfpipnaa.PF
