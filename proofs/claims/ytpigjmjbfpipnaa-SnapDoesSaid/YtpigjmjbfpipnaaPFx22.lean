-- By a program of this session.
import Derived.Test.YtpigjmjbfpipnaaPFx0
import Derived.Test.YtpigjmjbfpipnaaPFx3
import Derived.Test.YtpigjmjbfpipnaaPFx4
import Derived.Test.YtpigjmjbfpipnaaPFx9
import Derived.Test.YtpigjmjbfpipnaaPFx12
import Derived.Test.YtpigjmjbfpipnaaPFx15
import Derived.Test.YtpigjmjbfpipnaaPFx21
namespace Go.Proofs.Ytpigjmjbfpipnaa.PF
open Go.RowKit YtpigjmjbfpipnaaW.PrintWords YtpigjmjbfpipnaaW.PrintLast YtpigjmjbfpipnaaW.PrintMore Sh Ytpigjmjbfpipnaa.Op
attribute [local go_sem] max2_int min2_int max_two min_two max_three min_three max_four min_four
set_option linter.unusedVariables false
set_option maxHeartbeats 80000000
set_option maxRecDepth 100000
set_option linter.unusedSimpArgs false
def gafferref01_four.f (a0 : Int) : Option (ByteArray) := some (strOfNums (([(wrap64 (Int.tdiv a0 16777216)) % 256, (wrap64 (Int.tdiv a0 65536)) % 256, (wrap64 (Int.tdiv a0 256)) % 256, (a0) % 256] : List Int)))
theorem gafferref01_four.calls (a0 : Int) (r : ByteArray) (w : World) (h : gafferref01_four.f a0 = some r) :
  Calls Try.prog 93 #[.int .i64 a0] w fun e w' => e = .returned (.string r) ∧ Below w.heap.size w w' := by
 have HB := a_ (Below.refl w.heap.size w)
 have H := h
 unfold gafferref01_four.f at H
 clear h
 obtain ⟨y674, hy674⟩ : ∃ y_ : List Int, y_ = (([(wrap64 (Int.tdiv a0 16777216)) % 256, (wrap64 (Int.tdiv a0 65536)) % 256, (wrap64 (Int.tdiv a0 256)) % 256, (a0) % 256] : List Int)) := ⟨_, rfl⟩
 replace H : (some (strOfNums y674)) = some r := by first | (rw [hy674]; with_reducible exact H) | (have H2_ := (Option.bind_some _ _).symm.trans H; rw [hy674]; with_reducible exact H2_) | (have H2_ := (Option.bind_some _ _).symm.trans H; with_reducible exact H2_) | with_reducible exact H | (rw [hy674]; exact H) | exact H
 have Ny674 := a_ hy674
 clear hy674
 obtain rfl := Option.some.inj H
 go_enter Try.func93, Try.ntmps93
 go_wp2_with (first | ((with_reducible refine gd_ 14 ?_); refine Kd.R_lit (Kd.int .u8) _ 5 ?hg (N := 14) ?hd (xs := ([(wrap64 (Int.tdiv a0 16777216)) % 256, (wrap64 (Int.tdiv a0 65536)) % 256, (wrap64 (Int.tdiv a0 256)) % 256, (a0) % 256] : List Int)) (inner := [.int .u8 ((wrap64 (Int.tdiv a0 16777216)) % 256), .int .u8 ((wrap64 (Int.tdiv a0 65536)) % 256), .int .u8 ((wrap64 (Int.tdiv a0 256)) % 256), .int .u8 ((a0) % 256)]) (ok := fun _ => True) (okp := fun _ => True) ?hr ?hp (fun _ hk => hk) trivial (Below.refl _ _) (Nat.le_refl _) (by simp) ?_; (case hd => rfl); (case hg => rfl); (case hr => first | (go_simp; done) | (go_simp; rfl)); (case hp => exact (Reps.one (show Kd.M (Kd.int .u8) _ _ _ ((wrap64 (Int.tdiv a0 16777216)) % 256) [.int .u8 ((wrap64 (Int.tdiv a0 16777216)) % 256)] from rfl) (Reps.one (show Kd.M (Kd.int .u8) _ _ _ ((wrap64 (Int.tdiv a0 65536)) % 256) [.int .u8 ((wrap64 (Int.tdiv a0 65536)) % 256)] from rfl) (Reps.one (show Kd.M (Kd.int .u8) _ _ _ ((wrap64 (Int.tdiv a0 256)) % 256) [.int .u8 ((wrap64 (Int.tdiv a0 256)) % 256)] from rfl) (Reps.one (show Kd.M (Kd.int .u8) _ _ _ ((a0) % 256) [.int .u8 ((a0) % 256)] from rfl) (Reps.none _ _)))))); intro v675 w2 ho3 hb hg_ hnew_; clear hg_ hnew_; (first | rw [← Ny674.out] at ho3 | (simp only [Int.reduceToNat] at ho3; rw [← Ny674.out] at ho3)); have HO676 := a_ (Kd.R_lower ho3 (below_size (bl_ HB))); replace HB := hB_ (bl_ HB) hb; clear hb ho3; have hcv4 := own_string (P := Try.prog) Try.underlying111 Try.underlying5 Try.underlying9 (Kd.own_of_R HO676.out)))
 go_ret
 exact ⟨fz_, bl_ HB⟩

def gafferref01_Frame.f (k : Nat) (a0 : ByteArray) : Option (ByteArray × Int) := if (a0.size : Int) > 65536 then (some ((⟨#[]⟩ : ByteArray), 2)) else ((gafferref01_four.f (a0.size : Int)).bind fun t677 => (if t677.size + a0.size ≤ 9223372036854775807 then ((gafferref01_check.f k (t677 ++ a0)).bind fun t678 => (if t677.size + t678.size ≤ 9223372036854775807 then (if (t677 ++ t678).size + a0.size ≤ 9223372036854775807 then (some ((t677 ++ t678) ++ a0, 0)) else (none)) else (none))) else (none)))
theorem gafferref01_Frame.mono : ∀ a0 k, LeO (gafferref01_Frame.f k a0) (gafferref01_Frame.f (k + 1) a0) := by
 intro a0 k
 unfold gafferref01_Frame.f
 repeat' with_reducible first | apply gafferref01_check.mono | apply LeO.refl | apply LeO.none | apply LeO.ite | refine LeO.bind ?_ (fun _ => ?_)
theorem gafferref01_Frame.calls (k : Nat) (a0 : ByteArray) (r1 : ByteArray) (r2 : Int) (w : World) (h : gafferref01_Frame.f k a0 = some (r1, r2)) :
  Calls Try.prog 60 #[.string a0] w fun e w' => e = .returned (.tuple #[.string r1, .int .i64 r2]) ∧ Below w.heap.size w w' := by
 have HB := a_ (Below.refl w.heap.size w)
 have H := h
 unfold gafferref01_Frame.f at H
 clear h
 by_cases c2 : (a0.size : Int) > 65536
 ·rw [if_pos c2] at H
  have c2b0 : decide (65536 < (a0.size : Int)) = true := decide_eq_true c2
  have c2b1 : decide (65536 < a0.size) = true := decide_eq_true (by omega)
  clear c2
  obtain ⟨rfl, rfl⟩ := so2_ H
  go_enter Try.func60, Try.ntmps60
  go_wp2
  go_ret2
  exact ⟨fz_, bl_ HB⟩
 rw [if_neg c2] at H
 have c2b0 : decide (65536 < (a0.size : Int)) = false := decide_eq_false c2
 have c2b1 : decide (65536 < a0.size) = false := decide_eq_false (by omega)
 clear c2
 obtain ⟨t677, A3, H⟩ := ob_ H
 try dsimp only at H
 by_cases c4 : t677.size + a0.size ≤ 9223372036854775807
 rotate_left
 ·rw [if_neg c4] at H
  exact absurd H (by simp)


 rw [if_pos c4] at H
 have c4b0 := eq_true c4
 have c4b1 : decide (t677.size + a0.size ≤ 9223372036854775807) = true := decide_eq_true c4
 try have c4b2 : (9223372036854775807 < t677.size + a0.size) = False := eq_false (Nat.not_lt.2 c4)
 clear c4
 obtain ⟨t678, A5, H⟩ := ob_ H
 try dsimp only at H
 replace H := iq_ H
 obtain ⟨c6, H⟩ := H
 have c6b0 := eq_true c6
 have c6b1 : decide (t677.size + t678.size ≤ 9223372036854775807) = true := decide_eq_true c6
 try have c6b2 : (9223372036854775807 < t677.size + t678.size) = False := eq_false (Nat.not_lt.2 c6)
 clear c6
 replace H := iq_ H
 obtain ⟨c7, H⟩ := H
 have c7b0 := eq_true c7
 have c7b1 : decide ((t677 ++ t678).size + a0.size ≤ 9223372036854775807) = true := decide_eq_true c7
 try have c7b2 : (9223372036854775807 < (t677 ++ t678).size + a0.size) = False := eq_false (Nat.not_lt.2 c7)
 clear c7
 obtain ⟨rfl, rfl⟩ := so2_ H
 (try (have c7b0x := c7b0; simp only [ByteArray.size_extract, ByteArray.size_append, Nat.min_self, Nat.sub_zero] at c7b0x))
 (try (have c7b1x := c7b1; simp only [ByteArray.size_extract, ByteArray.size_append, Nat.min_self, Nat.sub_zero] at c7b1x))
 (try (have c7b2x := c7b2; simp only [ByteArray.size_extract, ByteArray.size_append, Nat.min_self, Nat.sub_zero] at c7b2x))
 go_enter Try.func60, Try.ntmps60
 go_wp2_with (first | ((with_reducible refine gk_ 93 ?_); refine gl_ (some 10) Try.func93 #[.int .i64 (a0.size : Int)] ?_; (with_reducible refine (gafferref01_four.calls _ _ _ A3.out).mono ?_); rintro e w8 ⟨rfl, hb⟩; refine ⟨_, rfl, ?_⟩; replace HB := hB_ (bl_ HB) hb; (try clear hb)) | ((with_reducible refine gk_ 65 ?_); refine gl_ (some 15) Try.func65 #[.string (t677 ++ a0)] ?_; (with_reducible refine (gafferref01_check.calls _ _ _ _ A5.out).mono ?_); rintro e w9 ⟨rfl, hb⟩; refine ⟨_, rfl, ?_⟩; replace HB := hB_ (bl_ HB) hb; (try clear hb)))
 go_ret2
 exact ⟨fz_, bl_ HB⟩
mutual
def gafferref05_Save.j0 : Nat → Int → List (S71) → Bool → Int → Int → Int → List Int → ByteArray → Option ((List (S71)) × Bool × Int × Int)
 | 0, _, _, _, _, _, _, _, _ => none
 | k + 1, x6, x680000, x680001, x680002, x681000, x681001, x681002, x681003 => if x6 = 0 then (gafferref05_Save.j1 k x6 false x680000 x680001 x680002 x681000 x681001 x681002 x681003) else ((gafferref02_Check.f k x680000 x680001 x680002).bind fun t691 => (gafferref05_Save.j1 k x6 (t691 != 0) x680000 x680001 x680002 x681000 x681001 x681002 x681003))
def gafferref05_Save.j1 : Nat → Int → Bool → List (S71) → Bool → Int → Int → Int → List Int → ByteArray → Option ((List (S71)) × Bool × Int × Int)
 | 0, _, _, _, _, _, _, _, _, _ => none
 | k + 1, x6, x36, x680000, x680001, x680002, x681000, x681001, x681002, x681003 => if x36 = true then (some (([] : List (S71)), false, 0, x6)) else (if x6 = 0 then ((gafferref05_Bytes.f k x681000 x681001 x681002 x681003).bind fun t692 => ((gafferref01_Frame.f k t692).bind fun bt693 => ((gafferref04_Put.f k x680000 x680001 x680002 (⟨#[115, 110, 97, 112]⟩ : ByteArray) bt693.1).bind fun bt695 => (some (bt695.1, bt695.2.1, bt695.2.2.1, bt695.2.2.2))))) else ((gafferref02_Copy.f x680000 x680001 x680002).bind fun bt701 => (some (bt701.1, bt701.2.1, bt701.2.2, x6))))
end
def gafferref05_Save.f (k : Nat) (l0_0 : List (S71)) (a0_1 : Bool) (a0_2 : Int) (a1_0 : Int) (a1_1 : Int) (l1_2 : List Int) (a1_3 : ByteArray) : Option ((List (S71)) × Bool × Int × Int) := (gafferref05_Check.f k a1_0 a1_1 l1_2 a1_3).bind fun t682 => (if t682 = 0 then ((gafferref05_Load.f k l0_0 a0_1 a0_2).bind fun bt683 => (if bt683.2.2.2.2 = 0 then (if bt683.1 > a1_0 then (gafferref05_Save.j0 k 17 l0_0 a0_1 a0_2 a1_0 a1_1 l1_2 a1_3) else (gafferref05_Save.j0 k bt683.2.2.2.2 l0_0 a0_1 a0_2 a1_0 a1_1 l1_2 a1_3)) else (gafferref05_Save.j0 k bt683.2.2.2.2 l0_0 a0_1 a0_2 a1_0 a1_1 l1_2 a1_3))) else (gafferref05_Save.j0 k t682 l0_0 a0_1 a0_2 a1_0 a1_1 l1_2 a1_3))
theorem gafferref05_Save.mono_l : ∀ k, (∀ y0 y1 y2 y3 y4 y5 y6 y7, LeO (gafferref05_Save.j0 k y0 y1 y2 y3 y4 y5 y6 y7) (gafferref05_Save.j0 (k + 1) y0 y1 y2 y3 y4 y5 y6 y7)) ∧ (∀ y0 y1 y2 y3 y4 y5 y6 y7 y8, LeO (gafferref05_Save.j1 k y0 y1 y2 y3 y4 y5 y6 y7 y8) (gafferref05_Save.j1 (k + 1) y0 y1 y2 y3 y4 y5 y6 y7 y8))
 | 0 => ⟨fun _ _ _ _ _ _ _ _ r h => by simp [gafferref05_Save.j0] at h, fun _ _ _ _ _ _ _ _ _ r h => by simp [gafferref05_Save.j1] at h⟩
 | k + 1 => by
  obtain ⟨ih0, ih1⟩ := gafferref05_Save.mono_l k
  refine ⟨?_, ?_⟩
  ·intro y0 y1 y2 y3 y4 y5 y6 y7
   unfold gafferref05_Save.j0
   repeat' with_reducible first | apply ih0 | apply ih1 | apply gafferref01_Frame.mono | apply gafferref02_Check.mono | apply gafferref04_Put.mono | apply gafferref05_Bytes.mono | apply gafferref05_Check.mono | apply gafferref05_Load.mono | apply LeO.refl | apply LeO.none | apply LeO.ite | refine LeO.bind ?_ (fun _ => ?_)
  ·intro y0 y1 y2 y3 y4 y5 y6 y7 y8
   unfold gafferref05_Save.j1
   repeat' with_reducible first | apply ih0 | apply ih1 | apply gafferref01_Frame.mono | apply gafferref02_Check.mono | apply gafferref04_Put.mono | apply gafferref05_Bytes.mono | apply gafferref05_Check.mono | apply gafferref05_Load.mono | apply LeO.refl | apply LeO.none | apply LeO.ite | refine LeO.bind ?_ (fun _ => ?_)
theorem gafferref05_Save.mono : ∀ a0 a1 a2 a3 a4 a5 a6 k, LeO (gafferref05_Save.f k a0 a1 a2 a3 a4 a5 a6) (gafferref05_Save.f (k + 1) a0 a1 a2 a3 a4 a5 a6) := by
 intro a0 a1 a2 a3 a4 a5 a6 k
 obtain ⟨ih0, ih1⟩ := gafferref05_Save.mono_l k
 unfold gafferref05_Save.f
 repeat' with_reducible first | apply ih0 | apply ih1 | apply gafferref01_Frame.mono | apply gafferref02_Check.mono | apply gafferref04_Put.mono | apply gafferref05_Bytes.mono | apply gafferref05_Check.mono | apply gafferref05_Load.mono | apply LeO.refl | apply LeO.none | apply LeO.ite | refine LeO.bind ?_ (fun _ => ?_)
theorem gafferref05_Save.calls (k : Nat) (P0_0_ : Nat → Prop) (A0_0 : Option Addr) (c0_0 : Nat) (l0_0 : List (S71)) (a0_1 : Bool) (a0_2 : Int) (a1_0 : Int) (a1_1 : Int) (A1_2 : Option Addr) (c1_2 : Nat) (l1_2 : List Int) (a1_3 : ByteArray) (r1 : List (S71)) (r2 : Bool) (r3 : Int) (r4 : Int) (w : World) (hs0_0 : Kd.V k71 71 w w.heap.size (fun k_ => P0_0_ k_) (.slice A0_0 l0_0.length c0_0) l0_0) (hr1_2 : Kd.C (Kd.int .i64) w A1_2 l1_2.length l1_2) (hc1_2 : l1_2.length ≤ c1_2) (h : gafferref05_Save.f k l0_0 a0_1 a0_2 a1_0 a1_1 l1_2 a1_3 = some (r1, r2, r3, r4)) :
  Calls Try.prog 36 #[.agg #[.slice A0_0 l0_0.length c0_0, .bool a0_1, .int .i64 a0_2], .agg #[.int .u64 a1_0, .int .u64 a1_1, .slice A1_2 l1_2.length c1_2, .string a1_3]] w fun e w' => ∃ v0_ : Value, e = .returned (.tuple #[.agg #[v0_, .bool r2, .int .i64 r3], .int .i64 r4]) ∧ Kd.V k71 71 w' w.heap.size (fun k_ => (P0_0_ k_ ∨ w.heap.size ≤ k_)) v0_ r1 ∧ Below w.heap.size w w' := by
 have hu_1 := Try.underlying24
 have hu_2 := Try.underlying48
 have HO_1 := a_ (show Kd.V k71 71 w w.heap.size (fun k_ => (P0_0_ k_ ∨ w.heap.size ≤ k_)) (.slice A0_0 l0_0.length c0_0) l0_0 from Kd.V_mono hs0_0 (fun k_ hk => .inl hk))
 have HR_1 := a_ hr1_2
 have HC_1 := a_ hc1_2
 clear hr1_2 hc1_2
 have HB := a_ (Below.refl w.heap.size w)
 have H := h
 unfold gafferref05_Save.f at H
 clear h
 obtain ⟨t_1, A_2, H⟩ := ob_ H
 try dsimp only at H
 have HC_2 := a_ H
 clear H
 go_enter Try.func36, Try.ntmps36
 go_upto_if 14 with (first | ((with_reducible refine gd_ 2 ?_); refine bz_ 2 #[.slice A0_0 l0_0.length c0_0, .bool a0_1, .int .i64 a0_2] 24 ?_; intro gb_1 hg w_1 BK_1 hb; replace HO_1 := a_ (Kd.V_below (Kd.V_elderB (by refine vq_ ?_; exact HO_1.out) gb_1 (Nat.le_of_eq hg.symm)) hb); have GE_1 := a_ (bs_0 hg HB); replace HB := hB_ (bl_ HB) hb; clear hb hg) | ((with_reducible refine gd_ 3 ?_); refine bz_ 3 #[.int .u64 a1_0, .int .u64 a1_1, .slice A1_2 l1_2.length c1_2, .string a1_3] 48 ?_; intro gb_2 hg w_2 BK_2 hb; replace HO_1 := a_ (Kd.V_below (Kd.V_elderB (by refine vq_ ?_; exact HO_1.out) gb_2 (Nat.le_of_eq hg.symm)) hb); have GE_2 := a_ (bs_1 hg HB GE_1); replace HB := hB_ (bl_1 HB GE_1) hb; have NB_1 := nB_ hg BK_1; have NB_2 := nC_ hg BK_1; replace BK_1 := bB_ BK_1 hb; clear hb hg) | ((with_reducible refine gd_ 4 ?_); refine bz_ 4 #[.slice none 0 0, .bool false, .int .i64 0] 24 ?_; intro gb_3 hg w_3 BK_3 hb; replace HO_1 := a_ (Kd.V_below (Kd.V_elderB (by refine vq_ ?_; exact HO_1.out) gb_3 (Nat.le_of_eq hg.symm)) hb); have GE_3 := a_ (bs_2 hg HB GE_1 GE_2); replace HB := hB_ (bl_2 HB GE_1 GE_2) hb; have NB_3 := nB_ hg BK_1; have NB_4 := nC_ hg BK_1; replace BK_1 := bB_ BK_1 hb; have NB_5 := nB_ hg BK_2; have NB_6 := nC_ hg BK_2; replace BK_2 := bB_ BK_2 hb; clear hb hg; have := NB_2.out; have := NB_1.out; have := NB_5.out; have := NB_6.out; obtain ⟨_, _, _, _, _, _, _, _⟩ := c4_ BK_2) | ((with_reducible refine gk_ 32 ?_); refine gl_ (some 12) Try.func32 #[.agg #[.int .u64 a1_0, .int .u64 a1_1, .slice A1_2 l1_2.length c1_2, .string a1_3]] ?_; (with_reducible refine (gafferref05_Check.calls _ _ _ _ _ _ _ _ _ ?side1 ?side2 A_2.out).mono ?_); (case side1 => exact cl_ (Kd.C_below HR_1.out HB.out)); (case side2 => exact HC_1.out); rintro e w_4 ⟨rfl, hb⟩; refine ⟨_, rfl, ?_⟩; replace HO_1 := a_ (Kd.V_below (by refine vq_ ?_; exact HO_1.out) hb); replace BK_1 := bB_ BK_1 hb; replace BK_2 := bB_ BK_2 hb; replace BK_3 := bB_ BK_3 hb; replace HB := hB_ (bl_3 HB GE_1 GE_2 GE_3) hb; (try clear hb)))
 (try simp only [Act.put, List.setIfInBounds_toArray, List.set_cons_zero, List.set_cons_succ])
 go_cut [6] (fun v6 wc => ∃ (kq : Nat) (x6_3 : Int), v6 = .int .i64 x6_3 ∧ Aside0 (gafferref05_Save.j0 kq x6_3 l0_0 a0_1 a0_2 a1_0 a1_1 l1_2 a1_3 = some (r1, r2, r3, r4)) ∧ Aside0 (kq ≤ k) ∧ Aside0 (Kd.V k71 71 wc w.heap.size (fun k_ => (P0_0_ k_ ∨ w.heap.size ≤ k_) ∧ k_ ≠ gb_1 ∧ k_ ≠ gb_2 ∧ k_ ≠ gb_3) (.slice A0_0 l0_0.length c0_0) l0_0) ∧ Aside0 (wc.heap[gb_1]? = some (.cells #[(.slice A0_0 l0_0.length c0_0), .bool a0_1, .int .i64 a0_2] 24 (0, 0))) ∧ Aside0 (wc.heap[gb_2]? = some (.cells #[.int .u64 a1_0, .int .u64 a1_1, (.slice A1_2 l1_2.length c1_2), .string a1_3] 48 (0, 0))) ∧ Aside0 (wc.heap[gb_3]? = some (.cells #[(.slice none 0 0), .bool false, .int .i64 0] 24 (0, 0))) ∧ Aside0 (Below w.heap.size w wc))
 case first =>
  have H := HC_2.out
  clear HC_2
  by_cases c_1 : t_1 = 0
  rotate_left
  focus
   rw [if_neg c_1] at H
   obtain ⟨c_2, c_3⟩ := bn_ c_1
   (first | rw [c_2] | (simp only [i64_w, i32_w]; rw [c_2]) | skip)
   have H' := a_ H
   clear H
   have L0_ := trivial
  rotate_left
  focus
   rw [if_pos c_1] at H
   obtain ⟨c_2, c_3⟩ := be_ c_1
   clear c_1
   (first | rw [c_2] | (simp only [i64_w, i32_w]; rw [c_2]) | skip)
   obtain ⟨⟨t_2, t_3, t_4, t_5, t_6⟩, A_4, H⟩ := ob_ H
   try dsimp only at H
   by_cases c_4 : t_6 = 0
   rotate_left
   focus
    rw [if_neg c_4] at H
    obtain ⟨c_5, c_6⟩ := bn_ c_4
    have H' := a_ H
    clear H
    have := NB_1.out
    have := NB_2.out
    have := NB_3.out
    have := NB_4.out
    obtain ⟨_, _, _, _, _, _⟩ := c3_ BK_1
    have L1_ := trivial
   rotate_left
   focus
    rw [if_pos c_4] at H
    obtain ⟨c_5, c_6⟩ := be_ c_4
    clear c_4
    by_cases c_7 : t_2 > a1_0
    focus
     rw [if_pos c_7] at H
     have c_8 : decide (a1_0 < t_2) = true := decide_eq_true c_7
     clear c_7
     have H' := a_ H
     clear H
     have := NB_1.out
     have := NB_2.out
     have := NB_3.out
     have := NB_4.out
     obtain ⟨_, _, _, _, _, _⟩ := c3_ BK_1
     have L2_ := trivial
    rotate_left
    rw [if_neg c_7] at H
    have c_8 : decide (a1_0 < t_2) = false := decide_eq_false c_7
    clear c_7
    have H' := a_ H
    clear H
    have := NB_1.out
    have := NB_2.out
    have := NB_3.out
    have := NB_4.out
    obtain ⟨_, _, _, _, _, _⟩ := c3_ BK_1
    have L3_ := trivial
  all_goals
   first
   | (have _ := L0_
      go_wp2
      go_meet
      case rel => exact ⟨_, (t_1), fz_, H', ⟨by first | omega | exact Nat.le_refl _⟩, ⟨by refine vq_ ?_; exact Kd.V_mono HO_1.out (fun _ hk => ⟨hk.1.1.1, ⟨hk.1.1.2, ⟨hk.1.2, hk.2⟩⟩⟩)⟩, ⟨bk_ BK_1⟩, ⟨bk_ BK_2⟩, ⟨bk_ BK_3⟩, ⟨bl_3 HB GE_1 GE_2 GE_3⟩⟩)
   | (have _ := L1_
      go_wp2_with (first | ((with_reducible refine gk_ 34 ?_); refine gl_ (some 17) Try.func34 #[.agg #[.slice A0_0 l0_0.length c0_0, .bool a0_1, .int .i64 a0_2]] ?_; (with_reducible refine (gafferref05_Load.calls _ _ _ _ _ _ _ _ _ _ _ _ ?side1 ?side2 A_4.out).mono ?_); (case side1 => exact cl_ ((Kd.V_reads' HO_1.out).2.2)); (case side2 => exact (Kd.V_reads' HO_1.out).2.1); rintro e w_5 ⟨v_1, rfl, ho_1, hb⟩; refine ⟨_, rfl, ?_⟩; replace HO_1 := a_ (Kd.V_elder' (by refine vq_ ?_; exact HO_1.out) (Kd.R_base ho_1) hb); have HO_2 := a_ (Kd.R_lower (Kd.R_newM (M := fun k_ => (w.heap.size ≤ k_)) ho_1 (below_size (bl_3 HB GE_1 GE_2 GE_3)) (fun k_ h_ => h_)) (below_size (bl_3 HB GE_1 GE_2 GE_3))); replace BK_1 := bB_ BK_1 hb; replace BK_2 := bB_ BK_2 hb; replace BK_3 := bB_ BK_3 hb; replace HB := hB_ (bl_3 HB GE_1 GE_2 GE_3) hb; (try clear hb); (try clear ho_1)) | ((with_reducible refine gd_ 7 ?_); refine bz_ 7 #[.int .u64 0, .int .u64 0, .slice none 0 0, .string (⟨#[]⟩ : ByteArray)] 48 ?_; intro gb_4 hg w_6 BK_4 hb; replace HO_1 := a_ (Kd.V_below (Kd.V_elderB (by refine vq_ ?_; exact HO_1.out) gb_4 (Nat.le_of_eq hg.symm)) hb); replace HO_2 := rb_ HO_2 hb; have GE_4 := a_ (bs_3 hg HB GE_1 GE_2 GE_3); replace HB := hB_ (bl_3 HB GE_1 GE_2 GE_3) hb; have NB_7 := nB_ hg BK_1; have NB_8 := nC_ hg BK_1; replace BK_1 := bB_ BK_1 hb; have NB_9 := nB_ hg BK_2; have NB_10 := nC_ hg BK_2; replace BK_2 := bB_ BK_2 hb; have NB_11 := nB_ hg BK_3; have NB_12 := nC_ hg BK_3; replace BK_3 := bB_ BK_3 hb; clear hb hg; have := NB_8.out; have := NB_7.out; have := NB_10.out; have := NB_9.out; have := NB_12.out; have := NB_11.out; obtain ⟨_, _, _, _, _, _, _, _⟩ := c4_ BK_4; obtain ⟨Ao_1, co_1, eo_1⟩ := Kd.R_slice HO_2.out; subst eo_1))
      go_meet
      case rel => exact ⟨_, (t_6), fz_, H', ⟨by first | omega | exact Nat.le_refl _⟩, ⟨by refine vq_ ?_; exact Kd.V_mono (Kd.V_far (p := ⟨gb_4, 3, none⟩) (Kd.V_far (p := ⟨gb_4, 2, none⟩) (Kd.V_far (p := ⟨gb_4, 1, none⟩) (Kd.V_far (p := ⟨gb_4, 0, none⟩) (Kd.V_mono HO_1.out (fun k_ hk => (⟨hk, hk.2⟩ : _ ∧ k_ ≠ gb_4))) (fun _ hk => hk.2) (.int .u64 t_2)) (fun _ hk => hk.2) (.int .u64 t_3)) (fun _ hk => hk.2) (.slice Ao_1 t_4.length co_1)) (fun _ hk => hk.2) (.string t_5)) (fun _ hk => ⟨hk.1.1.1.1.1.1, ⟨hk.1.1.1.1.1.2, ⟨hk.1.1.1.1.2, hk.1.1.1.2⟩⟩⟩)⟩, ⟨by refine bq_ ?_; refine blk_far ?_ NB_7.out _; refine bq_ ?_; refine blk_far ?_ NB_7.out _; refine bq_ ?_; refine blk_far ?_ NB_7.out _; refine bq_ ?_; refine blk_far ?_ NB_7.out _; refine bq_ ?_; exact BK_1.out⟩, ⟨by refine bq_ ?_; refine blk_far ?_ NB_9.out _; refine bq_ ?_; refine blk_far ?_ NB_9.out _; refine bq_ ?_; refine blk_far ?_ NB_9.out _; refine bq_ ?_; refine blk_far ?_ NB_9.out _; refine bq_ ?_; exact BK_2.out⟩, ⟨by refine bq_ ?_; refine blk_far ?_ NB_11.out _; refine bq_ ?_; refine blk_far ?_ NB_11.out _; refine bq_ ?_; refine blk_far ?_ NB_11.out _; refine bq_ ?_; refine blk_far ?_ NB_11.out _; refine bq_ ?_; exact BK_3.out⟩, ⟨bl_4 HB GE_1 GE_2 GE_3 GE_4⟩⟩)
   | (have _ := L2_
      go_wp2_with (first | ((with_reducible refine gk_ 34 ?_); refine gl_ (some 17) Try.func34 #[.agg #[.slice A0_0 l0_0.length c0_0, .bool a0_1, .int .i64 a0_2]] ?_; (with_reducible refine (gafferref05_Load.calls _ _ _ _ _ _ _ _ _ _ _ _ ?side1 ?side2 A_4.out).mono ?_); (case side1 => exact cl_ ((Kd.V_reads' HO_1.out).2.2)); (case side2 => exact (Kd.V_reads' HO_1.out).2.1); rintro e w_5 ⟨v_1, rfl, ho_1, hb⟩; refine ⟨_, rfl, ?_⟩; replace HO_1 := a_ (Kd.V_elder' (by refine vq_ ?_; exact HO_1.out) (Kd.R_base ho_1) hb); have HO_2 := a_ (Kd.R_lower (Kd.R_newM (M := fun k_ => (w.heap.size ≤ k_)) ho_1 (below_size (bl_3 HB GE_1 GE_2 GE_3)) (fun k_ h_ => h_)) (below_size (bl_3 HB GE_1 GE_2 GE_3))); replace BK_1 := bB_ BK_1 hb; replace BK_2 := bB_ BK_2 hb; replace BK_3 := bB_ BK_3 hb; replace HB := hB_ (bl_3 HB GE_1 GE_2 GE_3) hb; (try clear hb); (try clear ho_1)) | ((with_reducible refine gd_ 7 ?_); refine bz_ 7 #[.int .u64 0, .int .u64 0, .slice none 0 0, .string (⟨#[]⟩ : ByteArray)] 48 ?_; intro gb_4 hg w_6 BK_4 hb; replace HO_1 := a_ (Kd.V_below (Kd.V_elderB (by refine vq_ ?_; exact HO_1.out) gb_4 (Nat.le_of_eq hg.symm)) hb); replace HO_2 := rb_ HO_2 hb; have GE_4 := a_ (bs_3 hg HB GE_1 GE_2 GE_3); replace HB := hB_ (bl_3 HB GE_1 GE_2 GE_3) hb; have NB_7 := nB_ hg BK_1; have NB_8 := nC_ hg BK_1; replace BK_1 := bB_ BK_1 hb; have NB_9 := nB_ hg BK_2; have NB_10 := nC_ hg BK_2; replace BK_2 := bB_ BK_2 hb; have NB_11 := nB_ hg BK_3; have NB_12 := nC_ hg BK_3; replace BK_3 := bB_ BK_3 hb; clear hb hg; have := NB_8.out; have := NB_7.out; have := NB_10.out; have := NB_9.out; have := NB_12.out; have := NB_11.out; obtain ⟨_, _, _, _, _, _, _, _⟩ := c4_ BK_4; obtain ⟨Ao_1, co_1, eo_1⟩ := Kd.R_slice HO_2.out; subst eo_1; have := NB_5.out; have := NB_6.out; obtain ⟨_, _, _, _, _, _, _, _⟩ := c4_ BK_2))
      go_meet
      case rel => exact ⟨_, (17), fz_, H', ⟨by first | omega | exact Nat.le_refl _⟩, ⟨by refine vq_ ?_; exact Kd.V_mono (Kd.V_far (p := ⟨gb_4, 3, none⟩) (Kd.V_far (p := ⟨gb_4, 2, none⟩) (Kd.V_far (p := ⟨gb_4, 1, none⟩) (Kd.V_far (p := ⟨gb_4, 0, none⟩) (Kd.V_mono HO_1.out (fun k_ hk => (⟨hk, hk.2⟩ : _ ∧ k_ ≠ gb_4))) (fun _ hk => hk.2) (.int .u64 t_2)) (fun _ hk => hk.2) (.int .u64 t_3)) (fun _ hk => hk.2) (.slice Ao_1 t_4.length co_1)) (fun _ hk => hk.2) (.string t_5)) (fun _ hk => ⟨hk.1.1.1.1.1.1, ⟨hk.1.1.1.1.1.2, ⟨hk.1.1.1.1.2, hk.1.1.1.2⟩⟩⟩)⟩, ⟨by refine bq_ ?_; refine blk_far ?_ NB_7.out _; refine bq_ ?_; refine blk_far ?_ NB_7.out _; refine bq_ ?_; refine blk_far ?_ NB_7.out _; refine bq_ ?_; refine blk_far ?_ NB_7.out _; refine bq_ ?_; exact BK_1.out⟩, ⟨by refine bq_ ?_; refine blk_far ?_ NB_9.out _; refine bq_ ?_; refine blk_far ?_ NB_9.out _; refine bq_ ?_; refine blk_far ?_ NB_9.out _; refine bq_ ?_; refine blk_far ?_ NB_9.out _; refine bq_ ?_; exact BK_2.out⟩, ⟨by refine bq_ ?_; refine blk_far ?_ NB_11.out _; refine bq_ ?_; refine blk_far ?_ NB_11.out _; refine bq_ ?_; refine blk_far ?_ NB_11.out _; refine bq_ ?_; refine blk_far ?_ NB_11.out _; refine bq_ ?_; exact BK_3.out⟩, ⟨bl_4 HB GE_1 GE_2 GE_3 GE_4⟩⟩)
   | (have _ := L3_
      go_wp2_with (first | ((with_reducible refine gk_ 34 ?_); refine gl_ (some 17) Try.func34 #[.agg #[.slice A0_0 l0_0.length c0_0, .bool a0_1, .int .i64 a0_2]] ?_; (with_reducible refine (gafferref05_Load.calls _ _ _ _ _ _ _ _ _ _ _ _ ?side1 ?side2 A_4.out).mono ?_); (case side1 => exact cl_ ((Kd.V_reads' HO_1.out).2.2)); (case side2 => exact (Kd.V_reads' HO_1.out).2.1); rintro e w_5 ⟨v_1, rfl, ho_1, hb⟩; refine ⟨_, rfl, ?_⟩; replace HO_1 := a_ (Kd.V_elder' (by refine vq_ ?_; exact HO_1.out) (Kd.R_base ho_1) hb); have HO_2 := a_ (Kd.R_lower (Kd.R_newM (M := fun k_ => (w.heap.size ≤ k_)) ho_1 (below_size (bl_3 HB GE_1 GE_2 GE_3)) (fun k_ h_ => h_)) (below_size (bl_3 HB GE_1 GE_2 GE_3))); replace BK_1 := bB_ BK_1 hb; replace BK_2 := bB_ BK_2 hb; replace BK_3 := bB_ BK_3 hb; replace HB := hB_ (bl_3 HB GE_1 GE_2 GE_3) hb; (try clear hb); (try clear ho_1)) | ((with_reducible refine gd_ 7 ?_); refine bz_ 7 #[.int .u64 0, .int .u64 0, .slice none 0 0, .string (⟨#[]⟩ : ByteArray)] 48 ?_; intro gb_4 hg w_6 BK_4 hb; replace HO_1 := a_ (Kd.V_below (Kd.V_elderB (by refine vq_ ?_; exact HO_1.out) gb_4 (Nat.le_of_eq hg.symm)) hb); replace HO_2 := rb_ HO_2 hb; have GE_4 := a_ (bs_3 hg HB GE_1 GE_2 GE_3); replace HB := hB_ (bl_3 HB GE_1 GE_2 GE_3) hb; have NB_7 := nB_ hg BK_1; have NB_8 := nC_ hg BK_1; replace BK_1 := bB_ BK_1 hb; have NB_9 := nB_ hg BK_2; have NB_10 := nC_ hg BK_2; replace BK_2 := bB_ BK_2 hb; have NB_11 := nB_ hg BK_3; have NB_12 := nC_ hg BK_3; replace BK_3 := bB_ BK_3 hb; clear hb hg; have := NB_8.out; have := NB_7.out; have := NB_10.out; have := NB_9.out; have := NB_12.out; have := NB_11.out; obtain ⟨_, _, _, _, _, _, _, _⟩ := c4_ BK_4; obtain ⟨Ao_1, co_1, eo_1⟩ := Kd.R_slice HO_2.out; subst eo_1; have := NB_5.out; have := NB_6.out; obtain ⟨_, _, _, _, _, _, _, _⟩ := c4_ BK_2))
      go_meet
      case rel => exact ⟨_, (t_6), fz_, H', ⟨by first | omega | exact Nat.le_refl _⟩, ⟨by refine vq_ ?_; exact Kd.V_mono (Kd.V_far (p := ⟨gb_4, 3, none⟩) (Kd.V_far (p := ⟨gb_4, 2, none⟩) (Kd.V_far (p := ⟨gb_4, 1, none⟩) (Kd.V_far (p := ⟨gb_4, 0, none⟩) (Kd.V_mono HO_1.out (fun k_ hk => (⟨hk, hk.2⟩ : _ ∧ k_ ≠ gb_4))) (fun _ hk => hk.2) (.int .u64 t_2)) (fun _ hk => hk.2) (.int .u64 t_3)) (fun _ hk => hk.2) (.slice Ao_1 t_4.length co_1)) (fun _ hk => hk.2) (.string t_5)) (fun _ hk => ⟨hk.1.1.1.1.1.1, ⟨hk.1.1.1.1.1.2, ⟨hk.1.1.1.1.2, hk.1.1.1.2⟩⟩⟩)⟩, ⟨by refine bq_ ?_; refine blk_far ?_ NB_7.out _; refine bq_ ?_; refine blk_far ?_ NB_7.out _; refine bq_ ?_; refine blk_far ?_ NB_7.out _; refine bq_ ?_; refine blk_far ?_ NB_7.out _; refine bq_ ?_; exact BK_1.out⟩, ⟨by refine bq_ ?_; refine blk_far ?_ NB_9.out _; refine bq_ ?_; refine blk_far ?_ NB_9.out _; refine bq_ ?_; refine blk_far ?_ NB_9.out _; refine bq_ ?_; refine blk_far ?_ NB_9.out _; refine bq_ ?_; exact BK_2.out⟩, ⟨by refine bq_ ?_; refine blk_far ?_ NB_11.out _; refine bq_ ?_; refine blk_far ?_ NB_11.out _; refine bq_ ?_; refine blk_far ?_ NB_11.out _; refine bq_ ?_; refine blk_far ?_ NB_11.out _; refine bq_ ?_; exact BK_3.out⟩, ⟨bl_4 HB GE_1 GE_2 GE_3 GE_4⟩⟩)
 case rest =>
  clear HC_2
  obtain ⟨kq, x_1, rfl, HA, HJ_1, HO_2, BK_1, BK_2, BK_3, HB⟩ := hcut
  cases kq with
  | zero => exact absurd HA.out (by simp [gafferref05_Save.j0])
  | succ kj3 =>
   have H := HA.out
   clear HA
   simp only [gafferref05_Save.j0] at H
   have HC_3 := a_ H
   clear H
   go_upto_region 7 with (fail)
   go_cut [36] (fun v36 wc => ∃ (kq : Nat) (x36_49 : Bool), v36 = .bool x36_49 ∧ Aside0 (gafferref05_Save.j1 kq x_1 x36_49 l0_0 a0_1 a0_2 a1_0 a1_1 l1_2 a1_3 = some (r1, r2, r3, r4)) ∧ Aside0 (kq ≤ kj3) ∧ Aside0 (Kd.V k71 71 wc w.heap.size (fun k_ => (P0_0_ k_ ∨ w.heap.size ≤ k_) ∧ k_ ≠ gb_1 ∧ k_ ≠ gb_2 ∧ k_ ≠ gb_3) (.slice A0_0 l0_0.length c0_0) l0_0) ∧ Aside0 (wc.heap[gb_1]? = some (.cells #[(.slice A0_0 l0_0.length c0_0), .bool a0_1, .int .i64 a0_2] 24 (0, 0))) ∧ Aside0 (wc.heap[gb_2]? = some (.cells #[.int .u64 a1_0, .int .u64 a1_1, (.slice A1_2 l1_2.length c1_2), .string a1_3] 48 (0, 0))) ∧ Aside0 (wc.heap[gb_3]? = some (.cells #[(.slice none 0 0), .bool false, .int .i64 0] 24 (0, 0))) ∧ Aside0 (Below w.heap.size w wc))
   case first =>
    have H := HC_3.out
    clear HC_3
    by_cases c_2 : x_1 = 0
    ·rw [if_pos c_2] at H
     obtain ⟨c_3, c_4⟩ := be_ c_2
     clear c_2
     (first | rw [c_3] | (simp only [i64_w, i32_w]; rw [c_3]) | skip)
     have H' := a_ H
     clear H
     go_wp2
     go_meet
     case rel => exact ⟨_, (false), fz_, H', ⟨by have := HJ_1.out; first | omega | exact Nat.le_refl _⟩, ⟨by refine vq_ ?_; exact HO_2.out⟩, ⟨bk_ BK_1⟩, ⟨bk_ BK_2⟩, ⟨bk_ BK_3⟩, ⟨bl_3 HB GE_1 GE_2 GE_3⟩⟩
    rw [if_neg c_2] at H
    obtain ⟨c_3, c_4⟩ := bn_ c_2
    (first | rw [c_3] | (simp only [i64_w, i32_w]; rw [c_3]) | skip)
    obtain ⟨t_2, A_4, H⟩ := ob_ H
    try dsimp only at H
    have H' := a_ H
    clear H
    have := NB_1.out
    have := NB_2.out
    have := NB_3.out
    have := NB_4.out
    obtain ⟨_, _, _, _, _, _⟩ := c3_ BK_1
    go_wp2_with (first | (go_at_call 46; (with_reducible refine (gafferref02_Check.calls _ _ _ _ _ _ _ _ ?side1 ?side2 A_4.out).mono ?_); (case side1 => exact cl_ ((Kd.V_reads' HO_2.out).2.2)); (case side2 => exact (Kd.V_reads' HO_2.out).2.1); rintro e w_5 ⟨rfl, hb⟩; replace HO_2 := a_ (Kd.V_below (by refine vq_ ?_; exact HO_2.out) hb); replace BK_1 := bB_ BK_1 hb; replace BK_2 := bB_ BK_2 hb; replace BK_3 := bB_ BK_3 hb; replace HB := hB_ (bl_3 HB GE_1 GE_2 GE_3) hb; (try clear hb)))
    go_meet
    case rel => exact ⟨_, ((t_2 != 0)), fz_, H', ⟨by have := HJ_1.out; first | omega | exact Nat.le_refl _⟩, ⟨by refine vq_ ?_; exact HO_2.out⟩, ⟨bk_ BK_1⟩, ⟨bk_ BK_2⟩, ⟨bk_ BK_3⟩, ⟨bl_3 HB GE_1 GE_2 GE_3⟩⟩
   case rest =>
    clear HC_3
    obtain ⟨kq, x_2, rfl, HA, HJ_2, HO_2, BK_1, BK_2, BK_3, HB⟩ := hcut
    cases kq with
    | zero => exact absurd HA.out (by simp [gafferref05_Save.j1])
    | succ kj49 =>
     have H := HA.out
     clear HA
     simp only [gafferref05_Save.j1] at H
     by_cases c_5 : x_2 = true
     ·subst c_5
      rw [if_pos rfl] at H
      obtain ⟨rfl, rfl, rfl, rfl⟩ := so4_ H
      have := NB_4.out
      have := NB_3.out
      have := NB_6.out
      have := NB_5.out
      obtain ⟨_, _, _, _, _, _⟩ := c3_ BK_3
      go_wp2
      refine bodyPost_ret (results_ct rfl _ _ gb_3 24 #[.slice none 0 0, .bool false, .int .i64 0] (0, 0) _ rfl (bp_0 BK_3) Try.underlying24 rfl (by kernel_rfl)) rfl ?_
      exact ⟨_, fz_, (Kd.V_nil _ _ _ _ _), bl_3 HB GE_1 GE_2 GE_3⟩
     replace c_5 := Bool.eq_false_iff.mpr c_5
     subst c_5
     rw [if_neg (show ¬ (false = true) by decide)] at H
     by_cases c_6 : x_1 = 0
     rotate_left
     ·rw [if_neg c_6] at H
      obtain ⟨c_7, c_8⟩ := bn_ c_6
      obtain ⟨⟨t_3, t_4, t_5⟩, A_6, H⟩ := ob_ H
      try dsimp only at H
      obtain ⟨rfl, rfl, rfl, rfl⟩ := so4_ H
      have := NB_1.out
      have := NB_2.out
      have := NB_3.out
      have := NB_4.out
      obtain ⟨_, _, _, _, _, _⟩ := c3_ BK_1
      go_wp2_with (first | ((with_reducible refine gk_ 14 ?_); refine gl_ (some 42) Try.func14 #[.agg #[.slice A0_0 l0_0.length c0_0, .bool a0_1, .int .i64 a0_2]] ?_; (with_reducible refine (gafferref02_Copy.calls _ _ _ _ _ _ _ _ _ ?side1 ?side2 A_6.out).mono ?_); (case side1 => exact cl_ ((Kd.V_reads' HO_2.out).2.2)); (case side2 => exact (Kd.V_reads' HO_2.out).2.1); rintro e w_6 ⟨v_1, rfl, ho_1, hb⟩; refine ⟨_, rfl, ?_⟩; replace HO_2 := a_ (Kd.V_elder' (by refine vq_ ?_; exact HO_2.out) (Kd.R_base ho_1) hb); have HO_3 := a_ (Kd.R_lower (Kd.R_newM (M := fun k_ => (w.heap.size ≤ k_)) ho_1 (below_size (bl_3 HB GE_1 GE_2 GE_3)) (fun k_ h_ => h_)) (below_size (bl_3 HB GE_1 GE_2 GE_3))); replace BK_1 := bB_ BK_1 hb; replace BK_2 := bB_ BK_2 hb; replace BK_3 := bB_ BK_3 hb; replace HB := hB_ (bl_3 HB GE_1 GE_2 GE_3) hb; (try clear hb); (try clear ho_1); obtain ⟨Ao_1, co_1, eo_1⟩ := Kd.R_slice HO_3.out; subst eo_1; have := NB_6.out; have := NB_5.out; obtain ⟨_, _, _, _, _, _⟩ := c3_ BK_3))
      refine bodyPost_ret (results_ct rfl _ _ gb_3 24 #[.slice Ao_1 t_3.length co_1, .bool t_4, .int .i64 t_5] (0, 0) _ rfl (bp_0 BK_3) Try.underlying24 rfl (by kernel_rfl)) rfl ?_
      exact ⟨_, fz_, Kd.V_mono (ok := (fun k_ => ((w.heap.size ≤ k_)))) (Kd.R_V (by refine rq_ ?_; exact Kd.R_mono (Kd.R_far (p := ⟨gb_3, 2, none⟩) (Kd.R_far (p := ⟨gb_3, 1, none⟩) (Kd.R_far (p := ⟨gb_3, 0, none⟩) (Kd.R_types HO_3.out BK_3.out (by decide)) (fun _ hk => hk.2) (.slice Ao_1 t_3.length co_1)) (fun _ hk => hk.2) (.bool t_4)) (fun _ hk => hk.2) (.int .i64 t_5)) (fun _ hk => hk.1.1))) (fun k_ hk => by first | exact ⟨(.inr (hk.1)), hk.2⟩ | exact (.inr (hk))), bl_3 HB GE_1 GE_2 GE_3⟩
     rw [if_pos c_6] at H
     obtain ⟨c_7, c_8⟩ := be_ c_6
     clear c_6
     obtain ⟨t_6, A_8, H⟩ := ob_ H
     try dsimp only at H
     obtain ⟨⟨t_7, t_8⟩, A_10, H⟩ := ob_ H
     try dsimp only at H
     obtain ⟨⟨t_9, t_10, t_11, t_12⟩, A_12, H⟩ := ob_ H
     try dsimp only at H
     obtain ⟨rfl, rfl, rfl, rfl⟩ := so4_ H
     have := NB_2.out
     have := NB_1.out
     have := NB_5.out
     have := NB_6.out
     obtain ⟨_, _, _, _, _, _, _, _⟩ := c4_ BK_2
     go_wp2_with (first | ((with_reducible refine gk_ 52 ?_); refine gl_ (some 46) Try.func52 #[.agg #[.int .u64 a1_0, .int .u64 a1_1, .slice A1_2 l1_2.length c1_2, .string a1_3]] ?_; (with_reducible refine (gafferref05_Bytes.calls _ _ _ _ _ _ _ _ _ ?side1 ?side2 A_8.out).mono ?_); (case side1 => exact cl_ (Kd.C_below HR_1.out HB.out)); (case side2 => exact HC_1.out); rintro e w_7 ⟨rfl, hb⟩; refine ⟨_, rfl, ?_⟩; replace HO_2 := a_ (Kd.V_below (by refine vq_ ?_; exact HO_2.out) hb); replace BK_1 := bB_ BK_1 hb; replace BK_2 := bB_ BK_2 hb; replace BK_3 := bB_ BK_3 hb; replace HB := hB_ (bl_3 HB GE_1 GE_2 GE_3) hb; (try clear hb)) | ((with_reducible refine gk_ 60 ?_); refine gl_ (some 47) Try.func60 #[.string t_6] ?_; (with_reducible refine (gafferref01_Frame.calls _ _ _ _ _ A_10.out).mono ?_); rintro e w_8 ⟨rfl, hb⟩; refine ⟨_, rfl, ?_⟩; replace HO_2 := a_ (Kd.V_below (by refine vq_ ?_; exact HO_2.out) hb); replace BK_1 := bB_ BK_1 hb; replace BK_2 := bB_ BK_2 hb; replace BK_3 := bB_ BK_3 hb; replace HB := hB_ (bl_3 HB GE_1 GE_2 GE_3) hb; (try clear hb); have := NB_3.out; have := NB_4.out; obtain ⟨_, _, _, _, _, _⟩ := c3_ BK_1) | ((with_reducible refine gk_ 47 ?_); refine gl_ (some 52) Try.func47 #[.agg #[.slice A0_0 l0_0.length c0_0, .bool a0_1, .int .i64 a0_2], .string (⟨#[115, 110, 97, 112]⟩ : ByteArray), .string t_7] ?_; (with_reducible refine (gafferref04_Put.calls _ (fun k_ => ((P0_0_ k_ ∨ w.heap.size ≤ k_) ∧ (k_ ≠ gb_1 ∧ (k_ ≠ gb_2 ∧ k_ ≠ gb_3)))) _ _ _ _ _ _ _ _ _ _ _ _ ?side1 A_12.out).mono ?_); (case side1 => exact HO_2.out); rintro e w_9 ⟨v_2, rfl, ho_1, hb⟩; refine ⟨_, rfl, ?_⟩; replace HO_2 := a_ (Kd.V_below (by refine vq_ ?_; exact HO_2.out) hb); have HO_4 := a_ (Kd.V_lower (Kd.V_mono (ok' := fun k_ => (P0_0_ k_ ∨ w.heap.size ≤ k_) ∧ k_ ≠ gb_1 ∧ k_ ≠ gb_2 ∧ k_ ≠ gb_3) ho_1 (fun k_ hk_ => ⟨Or.elim hk_ (fun hs_ => hs_.1) (fun hn_ => (.inr (Nat.le_trans (below_size (bl_3 HB GE_1 GE_2 GE_3)) hn_))), Or.elim hk_ (fun hs_ => hs_.2.1) (fun hn_ => (Kd.freshB (g := gb_1) (o := .cells #[.slice A0_0 l0_0.length c0_0, .bool a0_1, .int .i64 a0_2] 24 (0, 0)) (bk_ BK_1) k_ hn_)), Or.elim hk_ (fun hs_ => hs_.2.2.1) (fun hn_ => (Kd.freshB (g := gb_2) (o := .cells #[.int .u64 a1_0, .int .u64 a1_1, .slice A1_2 l1_2.length c1_2, .string a1_3] 48 (0, 0)) (bk_ BK_2) k_ hn_)), Or.elim hk_ (fun hs_ => hs_.2.2.2) (fun hn_ => (Kd.freshB (g := gb_3) (o := .cells #[.slice none 0 0, .bool false, .int .i64 0] 24 (0, 0)) (bk_ BK_3) k_ hn_))⟩)) (below_size (bl_3 HB GE_1 GE_2 GE_3))); replace BK_1 := bB_ BK_1 hb; replace BK_2 := bB_ BK_2 hb; replace BK_3 := bB_ BK_3 hb; replace HB := hB_ (bl_3 HB GE_1 GE_2 GE_3) hb; (try clear hb); (try clear ho_1); obtain ⟨Ao_2, co_2, eo_2⟩ := Kd.V_slice HO_4.out; subst eo_2; obtain ⟨_, _, _, _, _, _⟩ := c3_ BK_3))
     refine bodyPost_ret (results_ct rfl _ _ gb_3 24 #[.slice Ao_2 t_9.length co_2, .bool t_10, .int .i64 t_11] (0, 0) _ rfl (bp_0 BK_3) Try.underlying24 rfl (by kernel_rfl)) rfl ?_
     exact ⟨_, fz_, by refine vq_ ?_; exact Kd.V_mono (Kd.V_far (p := ⟨gb_3, 2, none⟩) (Kd.V_far (p := ⟨gb_3, 1, none⟩) (Kd.V_far (p := ⟨gb_3, 0, none⟩) (Kd.V_mono HO_4.out (fun k_ hk => (⟨hk, hk.2.2.2⟩ : _ ∧ k_ ≠ gb_3))) (fun _ hk => hk.2) (.slice Ao_2 t_9.length co_2)) (fun _ hk => hk.2) (.bool t_10)) (fun _ hk => hk.2) (.int .i64 t_11)) (fun _ hk => hk.1.1), bl_3 HB GE_1 GE_2 GE_3⟩

def gafferlaw05_SnapDoes.f (k : Nat) (l0_0 : List (S71)) (a0_1 : Bool) (a0_2 : Int) (a1_0 : Int) (a1_1 : Int) (l1_2 : List Int) (a1_3 : ByteArray) : Option (Bool) := (gafferref02_Copy.f l0_0 a0_1 a0_2).bind fun bt708 => ((snap_Load.f k bt708.1 bt708.2.1 bt708.2.2).bind fun bt714 => ((gafferref05_Load.f k l0_0 a0_1 a0_2).bind fun bt722 => ((snap_Save.f k bt708.1 bt708.2.1 bt708.2.2 a1_0 a1_1 l1_2 a1_3).bind fun bt730 => ((gafferref05_Save.f k l0_0 a0_1 a0_2 a1_0 a1_1 l1_2 a1_3).bind fun bt737 => ((gafferlaw05_lives.f k).bind fun t744 => (if t744 = true then ((gafferref05_Same.f k bt714.1 bt714.2.1 bt714.2.2.1 bt714.2.2.2.1 bt722.1 bt722.2.1 bt722.2.2.1 bt722.2.2.2.1).bind fun t745 => (if t745 = true then (if bt714.2.2.2.2 = bt722.2.2.2.2 then ((gafferref02_Same.f k bt730.1 bt730.2.1 bt730.2.2.1 bt737.1 bt737.2.1 bt737.2.2.1).bind fun t746 => (if t746 = true then (if bt730.2.2.2 = bt737.2.2.2 then ((gafferref02_Same.f k bt708.1 bt708.2.1 bt708.2.2 l0_0 a0_1 a0_2).bind fun t747 => (some t747)) else (some false)) else (some false))) else (some false)) else (some false))) else (some false)))))))
theorem gafferlaw05_SnapDoes.mono : ∀ a0 a1 a2 a3 a4 a5 a6 k, LeO (gafferlaw05_SnapDoes.f k a0 a1 a2 a3 a4 a5 a6) (gafferlaw05_SnapDoes.f (k + 1) a0 a1 a2 a3 a4 a5 a6) := by
 intro a0 a1 a2 a3 a4 a5 a6 k
 unfold gafferlaw05_SnapDoes.f
 repeat' with_reducible first | apply gafferlaw05_lives.mono | apply gafferref02_Same.mono | apply gafferref05_Load.mono | apply gafferref05_Same.mono | apply gafferref05_Save.mono | apply snap_Load.mono | apply snap_Save.mono | apply LeO.refl | apply LeO.none | apply LeO.ite | refine LeO.bind ?_ (fun _ => ?_)
theorem gafferlaw05_SnapDoes.calls (k : Nat) (A0_0 : Option Addr) (c0_0 : Nat) (l0_0 : List (S71)) (a0_1 : Bool) (a0_2 : Int) (a1_0 : Int) (a1_1 : Int) (A1_2 : Option Addr) (c1_2 : Nat) (l1_2 : List Int) (a1_3 : ByteArray) (r : Bool) (w : World) (hr0_0 : Kd.C k71 w A0_0 l0_0.length l0_0) (hc0_0 : l0_0.length ≤ c0_0) (hr1_2 : Kd.C (Kd.int .i64) w A1_2 l1_2.length l1_2) (hc1_2 : l1_2.length ≤ c1_2) (h : gafferlaw05_SnapDoes.f k l0_0 a0_1 a0_2 a1_0 a1_1 l1_2 a1_3 = some r) (hr : r = true) :
  Calls Try.prog 9 #[.agg #[.slice A0_0 l0_0.length c0_0, .bool a0_1, .int .i64 a0_2], .agg #[.int .u64 a1_0, .int .u64 a1_1, .slice A1_2 l1_2.length c1_2, .string a1_3]] w fun e w' => e = .returned (.bool r) ∧ Below w.heap.size w w' := by
 have hu_1 := Try.underlying24
 have hu_2 := Try.underlying48
 have HR_1 := a_ hr0_0
 have HC_1 := a_ hc0_0
 clear hr0_0 hc0_0
 have HR_2 := a_ hr1_2
 have HC_2 := a_ hc1_2
 clear hr1_2 hc1_2
 have HB := a_ (Below.refl w.heap.size w)
 have H := h
 unfold gafferlaw05_SnapDoes.f at H
 clear h
 obtain ⟨⟨t_1, t_2, t_3⟩, A_2, H⟩ := ob_ H
 try dsimp only at H
 obtain ⟨⟨t_4, t_5, t_6, t_7, t_8⟩, A_4, H⟩ := ob_ H
 try dsimp only at H
 obtain ⟨⟨t_9, t_10, t_11, t_12, t_13⟩, A_6, H⟩ := ob_ H
 try dsimp only at H
 obtain ⟨⟨t_14, t_15, t_16, t_17⟩, A_8, H⟩ := ob_ H
 try dsimp only at H
 obtain ⟨⟨t_18, t_19, t_20, t_21⟩, A_10, H⟩ := ob_ H
 try dsimp only at H
 obtain ⟨t_22, A_12, H⟩ := ob_ H
 try dsimp only at H
 by_cases c_1 : t_22 = true
 rotate_left
 ·replace c_1 := Bool.eq_false_iff.mpr c_1
  subst c_1
  rw [if_neg (show ¬ (false = true) by decide)] at H
  exact absurd (H.trans (congrArg some hr)) (by simp)
 subst c_1
 rw [if_pos rfl] at H
 obtain ⟨t_23, A_14, H⟩ := ob_ H
 try dsimp only at H
 by_cases c_2 : t_23 = true
 rotate_left
 ·replace c_2 := Bool.eq_false_iff.mpr c_2
  subst c_2
  rw [if_neg (show ¬ (false = true) by decide)] at H
  exact absurd (H.trans (congrArg some hr)) (by simp)
 subst c_2
 rw [if_pos rfl] at H
 by_cases c_3 : t_8 = t_13
 rotate_left
 ·rw [if_neg c_3] at H
  obtain ⟨c_4, c_5⟩ := bn_ c_3
  exact absurd (H.trans (congrArg some hr)) (by simp)
 rw [if_pos c_3] at H
 obtain ⟨c_4, c_5⟩ := be_ c_3
 clear c_3
 obtain ⟨t_24, A_16, H⟩ := ob_ H
 try dsimp only at H
 by_cases c_6 : t_24 = true
 rotate_left
 ·replace c_6 := Bool.eq_false_iff.mpr c_6
  subst c_6
  rw [if_neg (show ¬ (false = true) by decide)] at H
  exact absurd (H.trans (congrArg some hr)) (by simp)
 subst c_6
 rw [if_pos rfl] at H
 by_cases c_7 : t_17 = t_21
 rotate_left
 ·rw [if_neg c_7] at H
  obtain ⟨c_8, c_9⟩ := bn_ c_7
  exact absurd (H.trans (congrArg some hr)) (by simp)
 rw [if_pos c_7] at H
 obtain ⟨c_8, c_9⟩ := be_ c_7
 clear c_7
 obtain ⟨t_25, A_18, H⟩ := ob_ H
 try dsimp only at H
 obtain rfl := Option.some.inj H
 go_enter Try.func9, Try.ntmps9
 go_wp2_with (first | ((with_reducible refine gd_ 2 ?_); refine bz_ 2 #[.slice A0_0 l0_0.length c0_0, .bool a0_1, .int .i64 a0_2] 24 ?_; intro gb_1 hg w_1 BK_1 hb; have GW_1 := a_ (bs_0 hg HB); have GE_1 := a_ (bs_0 hg HB); replace HB := hB_ (bl_ HB) hb; clear hb hg) | ((with_reducible refine gd_ 3 ?_); refine bz_ 3 #[.int .u64 a1_0, .int .u64 a1_1, .slice A1_2 l1_2.length c1_2, .string a1_3] 48 ?_; intro gb_2 hg w_2 BK_2 hb; have GW_2 := a_ (bs_1 hg HB GE_1); have GE_2 := a_ (bs_1 hg HB GE_1); replace HB := hB_ (bl_1 HB GE_1) hb; have NB_1 := nB_ hg BK_1; have NB_2 := nC_ hg BK_1; replace BK_1 := bB_ BK_1 hb; clear hb hg; have := NB_1.out; have := NB_2.out; obtain ⟨_, _, _, _, _, _⟩ := c3_ BK_1) | ((with_reducible refine gk_ 14 ?_); refine gl_ (some 15) Try.func14 #[.agg #[.slice A0_0 l0_0.length c0_0, .bool a0_1, .int .i64 a0_2]] ?_; (with_reducible refine (gafferref02_Copy.calls _ _ _ _ _ _ _ _ _ ?side1 ?side2 A_2.out).mono ?_); (case side1 => exact cl_ (Kd.C_below HR_1.out HB.out)); (case side2 => exact HC_1.out); rintro e w_3 ⟨v_1, rfl, ho_1, hb⟩; refine ⟨_, rfl, ?_⟩; have HO_1 := a_ (Kd.R_lower ho_1 (below_size (bl_2 HB GE_1 GE_2))); replace BK_1 := bB_ BK_1 hb; replace BK_2 := bB_ BK_2 hb; replace HB := hB_ (bl_2 HB GE_1 GE_2) hb; (try clear hb); (try clear ho_1)) | ((with_reducible refine gd_ 5 ?_); refine bz_ 5 #[.slice none 0 0, .bool false, .int .i64 0] 24 ?_; intro gb_3 hg w_4 BK_3 hb; replace HO_1 := rb_ HO_1 hb; have GW_3 := a_ (bs_2 hg HB GE_1 GE_2); have GE_3 := a_ (bs_2 hg HB GE_1 GE_2); replace HB := hB_ (bl_2 HB GE_1 GE_2) hb; have NB_3 := nB_ hg BK_1; have NB_4 := nC_ hg BK_1; replace BK_1 := bB_ BK_1 hb; have NB_5 := nB_ hg BK_2; have NB_6 := nC_ hg BK_2; replace BK_2 := bB_ BK_2 hb; clear hb hg; obtain ⟨Ao_1, co_1, eo_1⟩ := Kd.R_slice HO_1.out; subst eo_1; have := NB_4.out; have := NB_3.out; have := NB_6.out; have := NB_5.out; obtain ⟨_, _, _, _, _, _⟩ := c3_ BK_3) | ((with_reducible refine gk_ 33 ?_); refine gl_ (some 18) Try.func33 #[.agg #[.slice Ao_1 t_1.length co_1, .bool t_2, .int .i64 t_3]] ?_; (with_reducible refine (snap_Load.calls _ _ _ _ _ _ _ _ _ _ _ _ ?side1 ?side2 A_4.out).mono ?_); (case side1 => refine (Kd.R_reads' (e := 71) (base := w.heap.size) (ok := fun k_ => True) (n := t_1.length) (c := co_1) ?_).2.2; exact (by refine rq_ ?_; exact (rf1_ HO_1 BK_3))); (case side2 => exact (Kd.R_reads' HO_1.out).2.1); rintro e w_5 ⟨v_2, rfl, ho_1, hb⟩; refine ⟨_, rfl, ?_⟩; replace HO_1 := a_ (Kd.R_below (by refine rq_ ?_; exact (rf1_ HO_1 BK_3)) hb); have HO_2 := a_ (Kd.R_lower ho_1 (below_size (bl_3 HB GE_1 GE_2 GE_3))); replace BK_1 := bw_1 #[.slice A0_0 l0_0.length c0_0, .bool a0_1, .int .i64 a0_2] BK_1 NB_3 hb; replace BK_2 := bw_1 #[.int .u64 a1_0, .int .u64 a1_1, .slice A1_2 l1_2.length c1_2, .string a1_3] BK_2 NB_5 hb; replace BK_3 := bw_0 #[.slice Ao_1 t_1.length co_1, .bool t_2, .int .i64 t_3] BK_3 hb; replace HB := hB_ (bl_3 HB GE_1 GE_2 GE_3) hb; (try clear hb); (try clear ho_1)) | ((with_reducible refine gd_ 6 ?_); refine bz_ 6 #[.int .u64 0, .int .u64 0, .slice none 0 0, .string (⟨#[]⟩ : ByteArray)] 48 ?_; intro gb_4 hg w_6 BK_4 hb; replace HO_1 := rb_ HO_1 hb; replace HO_2 := rb_ HO_2 hb; have GW_4 := a_ (bs_3 hg HB GE_1 GE_2 GE_3); have GE_4 := a_ (bs_3 hg HB GE_1 GE_2 GE_3); replace HB := hB_ (bl_3 HB GE_1 GE_2 GE_3) hb; have NB_7 := nB_ hg BK_1; have NB_8 := nC_ hg BK_1; replace BK_1 := bB_ BK_1 hb; have NB_9 := nB_ hg BK_2; have NB_10 := nC_ hg BK_2; replace BK_2 := bB_ BK_2 hb; have NB_11 := nB_ hg BK_3; have NB_12 := nC_ hg BK_3; replace BK_3 := bB_ BK_3 hb; clear hb hg; have := NB_8.out; have := NB_7.out; have := NB_10.out; have := NB_9.out; have := NB_12.out; have := NB_11.out; obtain ⟨_, _, _, _, _, _, _, _⟩ := c4_ BK_4; obtain ⟨Ao_2, co_2, eo_2⟩ := Kd.R_slice HO_2.out; subst eo_2; obtain ⟨_, _, _, _, _, _⟩ := c3_ BK_1) | ((with_reducible refine gk_ 34 ?_); refine gl_ (some 23) Try.func34 #[.agg #[.slice A0_0 l0_0.length c0_0, .bool a0_1, .int .i64 a0_2]] ?_; (with_reducible refine (gafferref05_Load.calls _ _ _ _ _ _ _ _ _ _ _ _ ?side1 ?side2 A_6.out).mono ?_); (case side1 => exact Kd.C_below HR_1.out (bl_4 HB GE_1 GE_2 GE_3 GE_4)); (case side2 => exact HC_1.out); rintro e w_7 ⟨v_3, rfl, ho_1, hb⟩; refine ⟨_, rfl, ?_⟩; replace HO_1 := a_ (Kd.R_below (by refine rq_ ?_; exact (rf1_ HO_1 BK_4)) hb); have HO_3 := a_ (Kd.R_lower (Kd.R_new' ho_1 (Kd.R_lt (by refine rq_ ?_; exact (rf1_ HO_2 BK_4)))) (below_size (bl_4 HB GE_1 GE_2 GE_3 GE_4))); replace HO_2 := a_ (Kd.R_elder' (by refine rq_ ?_; exact (rf1_ HO_2 BK_4)) (Kd.R_base ho_1) hb); replace BK_1 := bw_1 #[.slice A0_0 l0_0.length c0_0, .bool a0_1, .int .i64 a0_2] BK_1 NB_7 hb; replace BK_2 := bw_1 #[.int .u64 a1_0, .int .u64 a1_1, .slice A1_2 l1_2.length c1_2, .string a1_3] BK_2 NB_9 hb; replace BK_3 := bw_1 #[.slice Ao_1 t_1.length co_1, .bool t_2, .int .i64 t_3] BK_3 NB_11 hb; replace BK_4 := bw_0 #[.int .u64 t_4, .int .u64 t_5, .slice Ao_2 t_6.length co_2, .string t_7] BK_4 hb; replace HB := hB_ (bl_4 HB GE_1 GE_2 GE_3 GE_4) hb; (try clear hb); (try clear ho_1)) | ((with_reducible refine gd_ 8 ?_); refine bz_ 8 #[.int .u64 0, .int .u64 0, .slice none 0 0, .string (⟨#[]⟩ : ByteArray)] 48 ?_; intro gb_5 hg w_8 BK_5 hb; replace HO_1 := rb_ HO_1 hb; replace HO_2 := rb_ HO_2 hb; replace HO_3 := rb_ HO_3 hb; have GW_5 := a_ (bs_4 hg HB GE_1 GE_2 GE_3 GE_4); have GE_5 := a_ (bs_4 hg HB GE_1 GE_2 GE_3 GE_4); replace HB := hB_ (bl_4 HB GE_1 GE_2 GE_3 GE_4) hb; have NB_13 := nB_ hg BK_1; have NB_14 := nC_ hg BK_1; replace BK_1 := bB_ BK_1 hb; have NB_15 := nB_ hg BK_2; have NB_16 := nC_ hg BK_2; replace BK_2 := bB_ BK_2 hb; have NB_17 := nB_ hg BK_3; have NB_18 := nC_ hg BK_3; replace BK_3 := bB_ BK_3 hb; have NB_19 := nB_ hg BK_4; have NB_20 := nC_ hg BK_4; replace BK_4 := bB_ BK_4 hb; clear hb hg; have := NB_14.out; have := NB_13.out; have := NB_16.out; have := NB_15.out; have := NB_18.out; have := NB_17.out; have := NB_20.out; have := NB_19.out; obtain ⟨_, _, _, _, _, _, _, _⟩ := c4_ BK_5; obtain ⟨Ao_3, co_3, eo_3⟩ := Kd.R_slice HO_3.out; subst eo_3; obtain ⟨_, _, _, _, _, _⟩ := c3_ BK_3; obtain ⟨_, _, _, _, _, _, _, _⟩ := c4_ BK_2) | ((with_reducible refine gk_ 35 ?_); refine gl_ (some 29) Try.func35 #[.agg #[.slice Ao_1 t_1.length co_1, .bool t_2, .int .i64 t_3], .agg #[.int .u64 a1_0, .int .u64 a1_1, .slice A1_2 l1_2.length c1_2, .string a1_3]] ?_; (with_reducible refine (snap_Save.calls _ _ _ _ _ _ _ _ _ _ _ _ _ _ _ _ _ ?side1 ?side2 ?side3 ?side4 A_8.out).mono ?_); (case side1 => refine (Kd.R_reads' (e := 71) (base := w.heap.size) (ok := fun k_ => True) (n := t_1.length) (c := co_1) ?_).2.2; exact (by refine rq_ ?_; exact (rf1_ HO_1 BK_5))); (case side2 => exact (Kd.R_reads' HO_1.out).2.1); (case side3 => exact Kd.C_below HR_2.out (bl_5 HB GE_1 GE_2 GE_3 GE_4 GE_5)); (case side4 => exact HC_2.out); rintro e w_9 ⟨v_4, rfl, ho_1, hb⟩; refine ⟨_, rfl, ?_⟩; replace HO_2 := a_ (Kd.R_below (by refine rq_ ?_; exact (rf1_ HO_2 BK_5)) hb); replace HO_3 := a_ (Kd.R_below (by refine rq_ ?_; exact (rf1_ HO_3 BK_5)) hb); have HO_4 := a_ (Kd.R_lower (Kd.R_new' ho_1 (Kd.R_lt (by refine rq_ ?_; exact (rf1_ HO_1 BK_5)))) (below_size (bl_5 HB GE_1 GE_2 GE_3 GE_4 GE_5))); replace HO_1 := a_ (Kd.R_elder' (by refine rq_ ?_; exact (rf1_ HO_1 BK_5)) (Kd.R_base ho_1) hb); replace BK_1 := bw_1 #[.slice A0_0 l0_0.length c0_0, .bool a0_1, .int .i64 a0_2] BK_1 NB_13 hb; replace BK_2 := bw_1 #[.int .u64 a1_0, .int .u64 a1_1, .slice A1_2 l1_2.length c1_2, .string a1_3] BK_2 NB_15 hb; replace BK_3 := bw_1 #[.slice Ao_1 t_1.length co_1, .bool t_2, .int .i64 t_3] BK_3 NB_17 hb; replace BK_4 := bw_1 #[.int .u64 t_4, .int .u64 t_5, .slice Ao_2 t_6.length co_2, .string t_7] BK_4 NB_19 hb; replace BK_5 := bw_0 #[.int .u64 t_9, .int .u64 t_10, .slice Ao_3 t_11.length co_3, .string t_12] BK_5 hb; replace HB := hB_ (bl_5 HB GE_1 GE_2 GE_3 GE_4 GE_5) hb; (try clear hb); (try clear ho_1)) | ((with_reducible refine gd_ 10 ?_); refine bz_ 10 #[.slice none 0 0, .bool false, .int .i64 0] 24 ?_; intro gb_6 hg w_10 BK_6 hb; replace HO_1 := rb_ HO_1 hb; replace HO_2 := rb_ HO_2 hb; replace HO_3 := rb_ HO_3 hb; replace HO_4 := rb_ HO_4 hb; have GW_6 := a_ (bs_5 hg HB GE_1 GE_2 GE_3 GE_4 GE_5); have GE_6 := a_ (bs_5 hg HB GE_1 GE_2 GE_3 GE_4 GE_5); replace HB := hB_ (bl_5 HB GE_1 GE_2 GE_3 GE_4 GE_5) hb; have NB_21 := nB_ hg BK_1; have NB_22 := nC_ hg BK_1; replace BK_1 := bB_ BK_1 hb; have NB_23 := nB_ hg BK_2; have NB_24 := nC_ hg BK_2; replace BK_2 := bB_ BK_2 hb; have NB_25 := nB_ hg BK_3; have NB_26 := nC_ hg BK_3; replace BK_3 := bB_ BK_3 hb; have NB_27 := nB_ hg BK_4; have NB_28 := nC_ hg BK_4; replace BK_4 := bB_ BK_4 hb; have NB_29 := nB_ hg BK_5; have NB_30 := nC_ hg BK_5; replace BK_5 := bB_ BK_5 hb; clear hb hg; obtain ⟨Ao_4, co_4, eo_4⟩ := Kd.R_slice HO_4.out; subst eo_4; have := NB_22.out; have := NB_21.out; have := NB_24.out; have := NB_23.out; have := NB_26.out; have := NB_25.out; have := NB_28.out; have := NB_27.out; have := NB_30.out; have := NB_29.out; obtain ⟨_, _, _, _, _, _⟩ := c3_ BK_6) | ((with_reducible refine gate_store (t := 24) (p := 10) rfl ?_); refine store_event (t := 24) (p := 10) (v := ?vo_w54) (w1 := (((w_10.setCell ⟨gb_6, 0, none⟩ (.slice Ao_4 t_14.length co_4)).setCell ⟨gb_6, 1, none⟩ (.bool t_15)).setCell ⟨gb_6, 2, none⟩ (.int .i64 t_16))) ?hg ?ho ?hn ?hr ?_; (case ho => rfl); (case hg => rfl); (case hn => rfl); (case hr => first | (go_simp; done) | (go_simp; rfl)); intro w_11 hw; have n_1 : Aside0 (Kd.R k71 71 w_11 w.heap.size (fun k_ => some k_ ≠ (.slice Ao_4 t_14.length co_4 : Value).ownBlock) (.slice Ao_1 t_1.length co_1) t_1) := ⟨(by rw [hw]; exact (by refine rq_ ?_; exact Kd.R_mono (Kd.R_far (p := ⟨gb_6, 2, none⟩) (Kd.R_far (p := ⟨gb_6, 1, none⟩) (Kd.R_far (p := ⟨gb_6, 0, none⟩) (Kd.R_types HO_1.out BK_6.out (by decide)) (fun _ hk => hk.2) (.slice Ao_4 t_14.length co_4)) (fun _ hk => hk.2) (.bool t_15)) (fun _ hk => hk.2) (.int .i64 t_16)) (fun _ hk => hk.1.2)))⟩; have n_2 : Aside0 (Kd.R (Kd.int .i64) 3 w_11 w.heap.size (fun k_ => some k_ ≠ (.slice Ao_3 t_11.length co_3 : Value).ownBlock) (.slice Ao_2 t_6.length co_2) t_6) := ⟨(by rw [hw]; exact (by refine rq_ ?_; exact Kd.R_mono (Kd.R_far (p := ⟨gb_6, 2, none⟩) (Kd.R_far (p := ⟨gb_6, 1, none⟩) (Kd.R_far (p := ⟨gb_6, 0, none⟩) (Kd.R_types HO_2.out BK_6.out (by decide)) (fun _ hk => hk.2) (.slice Ao_4 t_14.length co_4)) (fun _ hk => hk.2) (.bool t_15)) (fun _ hk => hk.2) (.int .i64 t_16)) (fun _ hk => hk.1.2)))⟩; have n_3 : Aside0 (Kd.R (Kd.int .i64) 3 w_11 w.heap.size (fun k_ => some k_ ≠ (.slice Ao_2 t_6.length co_2 : Value).ownBlock) (.slice Ao_3 t_11.length co_3) t_11) := ⟨(by rw [hw]; exact (by refine rq_ ?_; exact Kd.R_mono (Kd.R_far (p := ⟨gb_6, 2, none⟩) (Kd.R_far (p := ⟨gb_6, 1, none⟩) (Kd.R_far (p := ⟨gb_6, 0, none⟩) (Kd.R_types HO_3.out BK_6.out (by decide)) (fun _ hk => hk.2) (.slice Ao_4 t_14.length co_4)) (fun _ hk => hk.2) (.bool t_15)) (fun _ hk => hk.2) (.int .i64 t_16)) (fun _ hk => hk.1.2)))⟩; have n_4 : Aside0 (Kd.R k71 71 w_11 w.heap.size (fun k_ => some k_ ≠ (.slice Ao_1 t_1.length co_1 : Value).ownBlock) (.slice Ao_4 t_14.length co_4) t_14) := ⟨(by rw [hw]; exact (by refine rq_ ?_; exact Kd.R_mono (Kd.R_far (p := ⟨gb_6, 2, none⟩) (Kd.R_far (p := ⟨gb_6, 1, none⟩) (Kd.R_far (p := ⟨gb_6, 0, none⟩) (Kd.R_types HO_4.out BK_6.out (by decide)) (fun _ hk => hk.2) (.slice Ao_4 t_14.length co_4)) (fun _ hk => hk.2) (.bool t_15)) (fun _ hk => hk.2) (.int .i64 t_16)) (fun _ hk => hk.1.2)))⟩; have n_5 : Aside0 (w_11.heap[gb_1]? = some (.cells #[.slice A0_0 l0_0.length c0_0, .bool a0_1, .int .i64 a0_2] 24 (0, 0))) := ⟨(by rw [hw]; exact (bp_1 BK_1 NB_21))⟩; have n_6 : Aside0 (w_11.heap[gb_2]? = some (.cells #[.int .u64 a1_0, .int .u64 a1_1, .slice A1_2 l1_2.length c1_2, .string a1_3] 48 (0, 0))) := ⟨(by rw [hw]; exact (bp_1 BK_2 NB_23))⟩; have n_7 : Aside0 (w_11.heap[gb_3]? = some (.cells #[.slice Ao_1 t_1.length co_1, .bool t_2, .int .i64 t_3] 24 (0, 0))) := ⟨(by rw [hw]; exact (bp_1 BK_3 NB_25))⟩; have n_8 : Aside0 (w_11.heap[gb_4]? = some (.cells #[.int .u64 t_4, .int .u64 t_5, .slice Ao_2 t_6.length co_2, .string t_7] 48 (0, 0))) := ⟨(by rw [hw]; exact (bp_1 BK_4 NB_27))⟩; have n_9 : Aside0 (w_11.heap[gb_5]? = some (.cells #[.int .u64 t_9, .int .u64 t_10, .slice Ao_3 t_11.length co_3, .string t_12] 48 (0, 0))) := ⟨(by rw [hw]; exact (bp_1 BK_5 NB_29))⟩; have n_10 : Aside0 (w_11.heap[gb_6]? = some (.cells #[.slice Ao_4 t_14.length co_4, .bool t_15, .int .i64 t_16] 24 (0, 0))) := ⟨(by rw [hw]; exact (bp_0 BK_6))⟩; have n_11 : Aside0 (Below w.heap.size w w_11) := ⟨(by rw [hw]; exact (bl_6 HB GE_1 GE_2 GE_3 GE_4 GE_5 GE_6))⟩; clear hw; clear HO_1; clear HO_2; clear HO_3; clear HO_4; clear BK_1; clear BK_2; clear BK_3; clear BK_4; clear BK_5; clear BK_6; clear HB; have HO_1 := n_1; have HO_2 := n_2; have HO_3 := n_3; have HO_4 := n_4; have BK_1 := n_5; have BK_2 := n_6; have BK_3 := n_7; have BK_4 := n_8; have BK_5 := n_9; have BK_6 := n_10; have HB := n_11; clear n_1 n_2 n_3 n_4 n_5 n_6 n_7 n_8 n_9 n_10 n_11; obtain ⟨_, _, _, _, _, _⟩ := c3_ BK_1; obtain ⟨_, _, _, _, _, _, _, _⟩ := c4_ BK_2) | ((with_reducible refine gk_ 36 ?_); refine gl_ (some 35) Try.func36 #[.agg #[.slice A0_0 l0_0.length c0_0, .bool a0_1, .int .i64 a0_2], .agg #[.int .u64 a1_0, .int .u64 a1_1, .slice A1_2 l1_2.length c1_2, .string a1_3]] ?_; (with_reducible refine (gafferref05_Save.calls _ (fun k_ => k_ < w.heap.size) _ _ _ _ _ _ _ _ _ _ _ _ _ _ _ _ ?side1 ?side2 ?side3 A_10.out).mono ?_); (case side1 => exact Kd.V_mk HC_1.out (Kd.F_below (Kd.C_F k71_heap HR_1.out) (bl_6 HB GE_1 GE_2 GE_3 GE_4 GE_5 GE_6))); (case side2 => exact cl_ (Kd.C_below HR_2.out HB.out)); (case side3 => exact HC_2.out); rintro e w_12 ⟨v_5, rfl, ho_1, hb⟩; refine ⟨_, rfl, ?_⟩; have HO_5 := a_ (Kd.V_lower (Kd.V_mono (ok' := fun k_ => some k_ ≠ (.slice Ao_1 t_1.length co_1 : Value).ownBlock ∧ some k_ ≠ (.slice Ao_2 t_6.length co_2 : Value).ownBlock ∧ some k_ ≠ (.slice Ao_3 t_11.length co_3 : Value).ownBlock ∧ some k_ ≠ (.slice Ao_4 t_14.length co_4 : Value).ownBlock ∧ k_ ≠ gb_1 ∧ k_ ≠ gb_2 ∧ k_ ≠ gb_3 ∧ k_ ≠ gb_4 ∧ k_ ≠ gb_5 ∧ k_ ≠ gb_6) ho_1 (fun k_ hk_ => ⟨Or.elim hk_ (fun hs_ => fun e_ => Nat.not_le.2 hs_ (Kd.R_base HO_1.out k_ e_.symm)) (fun hn_ => (Kd.fresh' (Kd.R_lt (by refine rq_ ?_; exact HO_1.out)) k_ hn_)), Or.elim hk_ (fun hs_ => fun e_ => Nat.not_le.2 hs_ (Kd.R_base HO_2.out k_ e_.symm)) (fun hn_ => (Kd.fresh' (Kd.R_lt (by refine rq_ ?_; exact HO_2.out)) k_ hn_)), Or.elim hk_ (fun hs_ => fun e_ => Nat.not_le.2 hs_ (Kd.R_base HO_3.out k_ e_.symm)) (fun hn_ => (Kd.fresh' (Kd.R_lt (by refine rq_ ?_; exact HO_3.out)) k_ hn_)), Or.elim hk_ (fun hs_ => fun e_ => Nat.not_le.2 hs_ (Kd.R_base HO_4.out k_ e_.symm)) (fun hn_ => (Kd.fresh' (Kd.R_lt (by refine rq_ ?_; exact HO_4.out)) k_ hn_)), Or.elim hk_ (fun hs_ => fun e_ => Nat.not_le.2 hs_ (by rw [e_]; exact GW_1.out)) (fun hn_ => (Kd.freshB (g := gb_1) (o := .cells #[.slice A0_0 l0_0.length c0_0, .bool a0_1, .int .i64 a0_2] 24 (0, 0)) (bk_ BK_1) k_ hn_)), Or.elim hk_ (fun hs_ => fun e_ => Nat.not_le.2 hs_ (by rw [e_]; exact GW_2.out)) (fun hn_ => (Kd.freshB (g := gb_2) (o := .cells #[.int .u64 a1_0, .int .u64 a1_1, .slice A1_2 l1_2.length c1_2, .string a1_3] 48 (0, 0)) (bk_ BK_2) k_ hn_)), Or.elim hk_ (fun hs_ => fun e_ => Nat.not_le.2 hs_ (by rw [e_]; exact GW_3.out)) (fun hn_ => (Kd.freshB (g := gb_3) (o := .cells #[.slice Ao_1 t_1.length co_1, .bool t_2, .int .i64 t_3] 24 (0, 0)) (bk_ BK_3) k_ hn_)), Or.elim hk_ (fun hs_ => fun e_ => Nat.not_le.2 hs_ (by rw [e_]; exact GW_4.out)) (fun hn_ => (Kd.freshB (g := gb_4) (o := .cells #[.int .u64 t_4, .int .u64 t_5, .slice Ao_2 t_6.length co_2, .string t_7] 48 (0, 0)) (bk_ BK_4) k_ hn_)), Or.elim hk_ (fun hs_ => fun e_ => Nat.not_le.2 hs_ (by rw [e_]; exact GW_5.out)) (fun hn_ => (Kd.freshB (g := gb_5) (o := .cells #[.int .u64 t_9, .int .u64 t_10, .slice Ao_3 t_11.length co_3, .string t_12] 48 (0, 0)) (bk_ BK_5) k_ hn_)), Or.elim hk_ (fun hs_ => fun e_ => Nat.not_le.2 hs_ (by rw [e_]; exact GW_6.out)) (fun hn_ => (Kd.freshB (g := gb_6) (o := .cells #[.slice Ao_4 t_14.length co_4, .bool t_15, .int .i64 t_16] 24 (0, 0)) (bk_ BK_6) k_ hn_))⟩)) (below_size (bl_6 HB GE_1 GE_2 GE_3 GE_4 GE_5 GE_6))); replace HO_1 := rb_ HO_1 hb; replace HO_2 := rb_ HO_2 hb; replace HO_3 := rb_ HO_3 hb; replace HO_4 := rb_ HO_4 hb; replace BK_1 := bB_ BK_1 hb; replace BK_2 := bB_ BK_2 hb; replace BK_3 := bB_ BK_3 hb; replace BK_4 := bB_ BK_4 hb; replace BK_5 := bB_ BK_5 hb; replace BK_6 := bB_ BK_6 hb; replace HB := hB_ (bl_6 HB GE_1 GE_2 GE_3 GE_4 GE_5 GE_6) hb; (try clear hb); (try clear ho_1)) | ((with_reducible refine gd_ 12 ?_); refine bz_ 12 #[.slice none 0 0, .bool false, .int .i64 0] 24 ?_; intro gb_7 hg w_13 BK_7 hb; replace HO_1 := rb_ HO_1 hb; replace HO_2 := rb_ HO_2 hb; replace HO_3 := rb_ HO_3 hb; replace HO_4 := rb_ HO_4 hb; replace HO_5 := a_ (Kd.V_below (Kd.V_elderB (by refine vq_ ?_; exact HO_5.out) gb_7 (Nat.le_of_eq hg.symm)) hb); have GE_7 := a_ (bs_6 hg HB GE_1 GE_2 GE_3 GE_4 GE_5 GE_6); replace HB := hB_ (bl_6 HB GE_1 GE_2 GE_3 GE_4 GE_5 GE_6) hb; have NB_31 := nB_ hg BK_1; have NB_32 := nC_ hg BK_1; replace BK_1 := bB_ BK_1 hb; have NB_33 := nB_ hg BK_2; have NB_34 := nC_ hg BK_2; replace BK_2 := bB_ BK_2 hb; have NB_35 := nB_ hg BK_3; have NB_36 := nC_ hg BK_3; replace BK_3 := bB_ BK_3 hb; have NB_37 := nB_ hg BK_4; have NB_38 := nC_ hg BK_4; replace BK_4 := bB_ BK_4 hb; have NB_39 := nB_ hg BK_5; have NB_40 := nC_ hg BK_5; replace BK_5 := bB_ BK_5 hb; have NB_41 := nB_ hg BK_6; have NB_42 := nC_ hg BK_6; replace BK_6 := bB_ BK_6 hb; clear hb hg; obtain ⟨Ao_5, co_5, eo_5⟩ := Kd.V_slice HO_5.out; subst eo_5; have := NB_32.out; have := NB_31.out; have := NB_34.out; have := NB_33.out; have := NB_36.out; have := NB_35.out; have := NB_38.out; have := NB_37.out; have := NB_40.out; have := NB_39.out; have := NB_42.out; have := NB_41.out; obtain ⟨_, _, _, _, _, _⟩ := c3_ BK_7) | ((with_reducible refine gk_ 29 ?_); refine gl_ (some 38) Try.func29 #[] ?_; (with_reducible refine (gafferlaw05_lives.calls _ _ _ A_12.out).mono ?_); rintro e w_14 ⟨rfl, hb⟩; refine ⟨_, rfl, ?_⟩; replace HO_1 := a_ (Kd.R_below (by refine rq_ ?_; exact (rf1_ HO_1 BK_7)) hb); replace HO_2 := a_ (Kd.R_below (by refine rq_ ?_; exact (rf1_ HO_2 BK_7)) hb); replace HO_3 := a_ (Kd.R_below (by refine rq_ ?_; exact (rf1_ HO_3 BK_7)) hb); replace HO_4 := a_ (Kd.R_below (by refine rq_ ?_; exact (rf1_ HO_4 BK_7)) hb); replace HO_5 := a_ (Kd.V_below (by refine vq_ ?_; exact (Kd.V_mono (Kd.V_far (p := ⟨gb_7, 2, none⟩) (Kd.V_far (p := ⟨gb_7, 1, none⟩) (Kd.V_far (p := ⟨gb_7, 0, none⟩) (Kd.V_mono HO_5.out (fun k_ hk => (⟨hk, hk.2⟩ : _ ∧ k_ ≠ gb_7))) (fun _ hk => hk.2) (.slice Ao_5 t_18.length co_5)) (fun _ hk => hk.2) (.bool t_19)) (fun _ hk => hk.2) (.int .i64 t_20)) (fun _ h_ => h_.1))) hb); replace BK_1 := bw_1 #[.slice A0_0 l0_0.length c0_0, .bool a0_1, .int .i64 a0_2] BK_1 NB_31 hb; replace BK_2 := bw_1 #[.int .u64 a1_0, .int .u64 a1_1, .slice A1_2 l1_2.length c1_2, .string a1_3] BK_2 NB_33 hb; replace BK_3 := bw_1 #[.slice Ao_1 t_1.length co_1, .bool t_2, .int .i64 t_3] BK_3 NB_35 hb; replace BK_4 := bw_1 #[.int .u64 t_4, .int .u64 t_5, .slice Ao_2 t_6.length co_2, .string t_7] BK_4 NB_37 hb; replace BK_5 := bw_1 #[.int .u64 t_9, .int .u64 t_10, .slice Ao_3 t_11.length co_3, .string t_12] BK_5 NB_39 hb; replace BK_6 := bw_1 #[.slice Ao_4 t_14.length co_4, .bool t_15, .int .i64 t_16] BK_6 NB_41 hb; replace BK_7 := bw_0 #[.slice Ao_5 t_18.length co_5, .bool t_19, .int .i64 t_20] BK_7 hb; replace HB := a_ (below_step (by repeat (first | (with_reducible first | exact HB.out | apply below_alloc | apply pw_below_drewN | apply below_drew1 | refine below_set ?_ GE_1.out | refine below_set ?_ GE_2.out | refine below_set ?_ GE_3.out | refine below_set ?_ GE_4.out | refine below_set ?_ GE_5.out | refine below_set ?_ GE_6.out | refine below_set ?_ GE_7.out) | exact HB.out)) hb); (try clear hb); obtain ⟨_, _, _, _, _, _, _, _⟩ := c4_ BK_4; obtain ⟨_, _, _, _, _, _, _, _⟩ := c4_ BK_5) | (go_at_call 30; (with_reducible refine (gafferref05_Same.calls _ _ _ _ _ _ _ _ _ _ _ _ _ _ _ ?side1 ?side2 ?side3 ?side4 A_14.out).mono ?_); (case side1 => exact cl_ ((Kd.R_reads' HO_2.out).2.2)); (case side2 => exact (Kd.R_reads' HO_2.out).2.1); (case side3 => exact cl_ ((Kd.R_reads' HO_3.out).2.2)); (case side4 => exact (Kd.R_reads' HO_3.out).2.1); rintro e w_15 ⟨rfl, hb⟩; replace HO_1 := rb_ HO_1 hb; replace HO_2 := rb_ HO_2 hb; replace HO_3 := rb_ HO_3 hb; replace HO_4 := rb_ HO_4 hb; replace HO_5 := a_ (Kd.V_below (by refine vq_ ?_; exact HO_5.out) hb); replace BK_1 := bB_ BK_1 hb; replace BK_2 := bB_ BK_2 hb; replace BK_3 := bB_ BK_3 hb; replace BK_4 := bB_ BK_4 hb; replace BK_5 := bB_ BK_5 hb; replace BK_6 := bB_ BK_6 hb; replace BK_7 := bB_ BK_7 hb; replace HB := a_ (below_step (by repeat (first | (with_reducible first | exact HB.out | apply below_alloc | apply pw_below_drewN | apply below_drew1 | refine below_set ?_ GE_1.out | refine below_set ?_ GE_2.out | refine below_set ?_ GE_3.out | refine below_set ?_ GE_4.out | refine below_set ?_ GE_5.out | refine below_set ?_ GE_6.out | refine below_set ?_ GE_7.out) | exact HB.out)) hb); (try clear hb); obtain ⟨_, _, _, _, _, _⟩ := c3_ BK_6; obtain ⟨_, _, _, _, _, _⟩ := c3_ BK_7) | (go_at_call 20; (with_reducible refine (gafferref02_Same.calls _ _ _ _ _ _ _ _ _ _ _ _ _ ?side1 ?side2 ?side3 ?side4 A_16.out).mono ?_); (case side1 => exact cl_ ((Kd.R_reads' HO_4.out).2.2)); (case side2 => exact (Kd.R_reads' HO_4.out).2.1); (case side3 => exact cl_ ((Kd.V_reads' HO_5.out).2.2)); (case side4 => exact (Kd.V_reads' HO_5.out).2.1); rintro e w_16 ⟨rfl, hb⟩; replace HO_1 := rb_ HO_1 hb; replace HO_2 := rb_ HO_2 hb; replace HO_3 := rb_ HO_3 hb; replace HO_4 := rb_ HO_4 hb; replace HO_5 := a_ (Kd.V_below (by refine vq_ ?_; exact HO_5.out) hb); replace BK_1 := bB_ BK_1 hb; replace BK_2 := bB_ BK_2 hb; replace BK_3 := bB_ BK_3 hb; replace BK_4 := bB_ BK_4 hb; replace BK_5 := bB_ BK_5 hb; replace BK_6 := bB_ BK_6 hb; replace BK_7 := bB_ BK_7 hb; replace HB := a_ (below_step (by repeat (first | (with_reducible first | exact HB.out | apply below_alloc | apply pw_below_drewN | apply below_drew1 | refine below_set ?_ GE_1.out | refine below_set ?_ GE_2.out | refine below_set ?_ GE_3.out | refine below_set ?_ GE_4.out | refine below_set ?_ GE_5.out | refine below_set ?_ GE_6.out | refine below_set ?_ GE_7.out) | exact HB.out)) hb); (try clear hb); obtain ⟨_, _, _, _, _, _⟩ := c3_ BK_3; obtain ⟨_, _, _, _, _, _⟩ := c3_ BK_1) | (go_at_call 20; (with_reducible refine (gafferref02_Same.calls _ _ _ _ _ _ _ _ _ _ _ _ _ ?side1 ?side2 ?side3 ?side4 A_18.out).mono ?_); (case side1 => exact cl_ ((Kd.R_reads' HO_1.out).2.2)); (case side2 => exact (Kd.R_reads' HO_1.out).2.1); (case side3 => exact cl_ (Kd.C_below HR_1.out HB.out)); (case side4 => exact HC_1.out); rintro e w_17 ⟨rfl, hb⟩; replace HO_1 := rb_ HO_1 hb; replace HO_2 := rb_ HO_2 hb; replace HO_3 := rb_ HO_3 hb; replace HO_4 := rb_ HO_4 hb; replace HO_5 := a_ (Kd.V_below (by refine vq_ ?_; exact HO_5.out) hb); replace BK_1 := bB_ BK_1 hb; replace BK_2 := bB_ BK_2 hb; replace BK_3 := bB_ BK_3 hb; replace BK_4 := bB_ BK_4 hb; replace BK_5 := bB_ BK_5 hb; replace BK_6 := bB_ BK_6 hb; replace BK_7 := bB_ BK_7 hb; replace HB := a_ (below_step (by repeat (first | (with_reducible first | exact HB.out | apply below_alloc | apply pw_below_drewN | apply below_drew1 | refine below_set ?_ GE_1.out | refine below_set ?_ GE_2.out | refine below_set ?_ GE_3.out | refine below_set ?_ GE_4.out | refine below_set ?_ GE_5.out | refine below_set ?_ GE_6.out | refine below_set ?_ GE_7.out) | exact HB.out)) hb); (try clear hb)))
 go_ret
 exact ⟨fz_, by repeat (first | (with_reducible first | exact HB.out | apply below_alloc | apply pw_below_drewN | apply below_drew1 | refine below_set ?_ GE_1.out | refine below_set ?_ GE_2.out | refine below_set ?_ GE_3.out | refine below_set ?_ GE_4.out | refine below_set ?_ GE_5.out | refine below_set ?_ GE_6.out | refine below_set ?_ GE_7.out) | exact HB.out)⟩

/-- THE ONE PURE STATEMENT of gafferlaw05_SnapDoes: yours. -/
def gafferlaw05_SnapDoes.Pure : Prop := ∀ (x0 : S24) (x1 : S48), ok24 x0 → ok48 x1 → ∃ k, gafferlaw05_SnapDoes.f k x0.f0 x0.f1 x0.f2 x1.f0 x1.f1 x1.f2 x1.f3 = some true
end Go.Proofs.Ytpigjmjbfpipnaa.PF
