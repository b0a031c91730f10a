-- By a program of this session.
import Derived.Test.YtpigjmjbfpipnaaPFx0
import Derived.Test.YtpigjmjbfpipnaaPFx4
import Derived.Test.YtpigjmjbfpipnaaPFx9
import Derived.Test.YtpigjmjbfpipnaaPFx10
namespace Go.Proofs.Ytpigjmjbfpipnaa.PF
open Go.RowKit YtpigjmjbfpipnaaW.PrintWords YtpigjmjbfpipnaaW.PrintLast YtpigjmjbfpipnaaW.PrintMore Sh Ytpigjmjbfpipnaa.Op
attribute [local go_sem] max2_int min2_int max_two min_two max_three min_three max_four min_four
set_option linter.unusedVariables false
set_option maxHeartbeats 80000000
set_option maxRecDepth 100000
set_option linter.unusedSimpArgs false
mutual
def disk_done.j0 : Nat → Int → List (S71) → Bool → Int → Int → ByteArray → ByteArray → ByteArray → Int → Option ((List (S71)) × Bool × Int × Int)
 | 0, _, _, _, _, _, _, _, _, _ => none
 | k + 1, x8, x252000, x252001, x252002, x253000, x253001, x253002, x253003, x253004 => if x252002 = 0 then (some (x252000, true, x252002, 8)) else (if x252002 > 0 then (disk_done.j1 k x8 x252000 x252001 (wrap64 (x252002 - 1)) x253000 x253001 x253002 x253003 x253004) else (disk_done.j1 k x8 x252000 x252001 x252002 x253000 x253001 x253002 x253003 x253004))
def disk_done.j1 : Nat → Int → List (S71) → Bool → Int → Int → ByteArray → ByteArray → ByteArray → Int → Option ((List (S71)) × Bool × Int × Int)
 | 0, _, _, _, _, _, _, _, _, _ => none
 | k + 1, x8, x252000, x252001, x252002, x253000, x253001, x253002, x253003, x253004 => if 0 ≤ x8 then (if x8 < (x252000.length : Int) then (if x253000 = 1 then (some ((x252000.set (x8 : Int).toNat (⟨(rd_T71 x252000 x8).f0, (rd_T71 x252000 x8).f1, (((rd_T71 x252000 x8).f1).size : Int)⟩ : S71)), x252001, x252002, 0)) else (if x253000 = 2 then (none) else (if x253000 = 4 then ((api_File_109.f x252000 x8 (wrap64 (x8 + 1))).bind fun t273 => (some (t273, x252001, x252002, 0))) else (if x253000 = 3 then ((api_File_109.f x252000 x8 (wrap64 (x8 + 1))).bind fun t278 => ((disk_place.f k t278 x252001 x252002 x253002).bind fun bt281 => (if bt281.2 = true then (if 0 ≤ bt281.1 then (if bt281.1 < (t278.length : Int) then (some ((t278.set (bt281.1 : Int).toNat (⟨x253002, (rd_T71 x252000 x8).f1, (rd_T71 x252000 x8).f2⟩ : S71)), x252001, x252002, 0)) else (none)) else (none)) else ((api_File_108.f t278 bt281.1 (([(⟨x253002, (rd_T71 x252000 x8).f1, (rd_T71 x252000 x8).f2⟩ : S71)] : List (S71)))).bind fun t287 => (some (t287, x252001, x252002, 0)))))) else (some (x252000, x252001, x252002, 0)))))) else (none)) else (none)
end
def disk_done.f (k : Nat) (l0_0 : List (S71)) (a0_1 : Bool) (a0_2 : Int) (a1_0 : Int) (a1_1 : ByteArray) (a1_2 : ByteArray) (a1_3 : ByteArray) (a1_4 : Int) : Option ((List (S71)) × Bool × Int × Int) := (disk_Check.f k l0_0 a0_1 a0_2).bind fun t254 => (if t254 = 0 then ((api_File_48.f l0_0).bind fun t255 => (if a0_1 = true then (some (t255, a0_1, a0_2, 8)) else ((disk_change_refused.f k a1_0 a1_1 a1_2 a1_3 a1_4 t255 a0_1 a0_2).bind fun t258 => (if t258 = 0 then ((disk_place.f k t255 a0_1 a0_2 a1_1).bind fun bt259 => (if a1_0 = 0 then (if bt259.2 = true then (if 0 ≤ bt259.1 then (if bt259.1 < (t255.length : Int) then (if ((rd_T71 t255 bt259.1).f1).size + a1_3.size ≤ 9223372036854775807 then (disk_done.j0 k bt259.1 (t255.set (bt259.1 : Int).toNat (⟨(rd_T71 t255 bt259.1).f0, ((rd_T71 t255 bt259.1).f1) ++ a1_3, (rd_T71 t255 bt259.1).f2⟩ : S71)) a0_1 a0_2 a1_0 a1_1 a1_2 a1_3 a1_4) else (none)) else (none)) else (none)) else ((api_File_108.f t255 bt259.1 (([(⟨a1_1, (⟨#[]⟩ : ByteArray), 0⟩ : S71)] : List (S71)))).bind fun t266 => (if 0 ≤ bt259.1 then (if bt259.1 < (t266.length : Int) then (if ((rd_T71 t266 bt259.1).f1).size + a1_3.size ≤ 9223372036854775807 then (disk_done.j0 k bt259.1 (t266.set (bt259.1 : Int).toNat (⟨(rd_T71 t266 bt259.1).f0, ((rd_T71 t266 bt259.1).f1) ++ a1_3, (rd_T71 t266 bt259.1).f2⟩ : S71)) a0_1 a0_2 a1_0 a1_1 a1_2 a1_3 a1_4) else (none)) else (none)) else (none)))) else (disk_done.j0 k bt259.1 t255 a0_1 a0_2 a1_0 a1_1 a1_2 a1_3 a1_4))) else (some (t255, a0_1, a0_2, t258)))))) else (some (([] : List (S71)), false, 0, t254)))
theorem disk_done.mono_l : ∀ k, (∀ y0 y1 y2 y3 y4 y5 y6 y7 y8, LeO (disk_done.j0 k y0 y1 y2 y3 y4 y5 y6 y7 y8) (disk_done.j0 (k + 1) y0 y1 y2 y3 y4 y5 y6 y7 y8)) ∧ (∀ y0 y1 y2 y3 y4 y5 y6 y7 y8, LeO (disk_done.j1 k y0 y1 y2 y3 y4 y5 y6 y7 y8) (disk_done.j1 (k + 1) y0 y1 y2 y3 y4 y5 y6 y7 y8))
 | 0 => ⟨fun _ _ _ _ _ _ _ _ _ r h => by simp [disk_done.j0] at h, fun _ _ _ _ _ _ _ _ _ r h => by simp [disk_done.j1] at h⟩
 | k + 1 => by
  obtain ⟨ih0, ih1⟩ := disk_done.mono_l k
  refine ⟨?_, ?_⟩
  ·intro y0 y1 y2 y3 y4 y5 y6 y7 y8
   unfold disk_done.j0
   repeat' with_reducible first | apply ih0 | apply ih1 | apply disk_Check.mono | apply disk_change_refused.mono | apply disk_place.mono | apply LeO.refl | apply LeO.none | apply LeO.ite | refine LeO.bind ?_ (fun _ => ?_)
  ·intro y0 y1 y2 y3 y4 y5 y6 y7 y8
   unfold disk_done.j1
   repeat' with_reducible first | apply ih0 | apply ih1 | apply disk_Check.mono | apply disk_change_refused.mono | apply disk_place.mono | apply LeO.refl | apply LeO.none | apply LeO.ite | refine LeO.bind ?_ (fun _ => ?_)
theorem disk_done.mono : ∀ a0 a1 a2 a3 a4 a5 a6 a7 k, LeO (disk_done.f k a0 a1 a2 a3 a4 a5 a6 a7) (disk_done.f (k + 1) a0 a1 a2 a3 a4 a5 a6 a7) := by
 intro a0 a1 a2 a3 a4 a5 a6 a7 k
 obtain ⟨ih0, ih1⟩ := disk_done.mono_l k
 unfold disk_done.f
 repeat' with_reducible first | apply ih0 | apply ih1 | apply disk_Check.mono | apply disk_change_refused.mono | apply disk_place.mono | apply LeO.refl | apply LeO.none | apply LeO.ite | refine LeO.bind ?_ (fun _ => ?_)
def disk_done.T14 : Bool × List (List Nat × List Nat) := (true, [([], []), ([0], [0]), ([], []), ([1, 2], [1, 2]), ([3], [3]), ([4], [4]), ([], []), ([6], [6]), ([5, 7], [5, 7]), ([1, 2, 0, 1, 2, 3, 4, 5, 6, 7, 8], [1, 2]), ([9, 0, 1, 2, 3, 4, 5, 6, 7, 8], [9]), ([10, 8, 0, 1, 2, 3, 4, 5, 6, 7, 8], [8, 10])])
def disk_done.B14 : List Nat := [0, 1, 0, 7, 15, 31, 0, 64, 255, 511, 1023, 2047]
theorem disk_done.tab14 : rtab .any (opsOf Try.f96 14) = disk_done.T14 := by kernel_rfl
theorem disk_done.bits14 : waitsOk disk_done.T14.2 disk_done.B14 = true := by kernel_rfl
theorem disk_done.calls (k : Nat) (A0_0 : Option Addr) (c0_0 : Nat) (l0_0 : List (S71)) (a0_1 : Bool) (a0_2 : Int) (a1_0 : Int) (a1_1 : ByteArray) (a1_2 : ByteArray) (a1_3 : ByteArray) (a1_4 : Int) (r1 : List (S71)) (r2 : Bool) (r3 : Int) (r4 : Int) (w : World) (hr0_0 : Kd.C k71 w A0_0 l0_0.length l0_0) (hc0_0 : l0_0.length ≤ c0_0) (h : disk_done.f k l0_0 a0_1 a0_2 a1_0 a1_1 a1_2 a1_3 a1_4 = some (r1, r2, r3, r4)) :
  Calls Try.prog 96 #[.agg #[.slice A0_0 l0_0.length c0_0, .bool a0_1, .int .i64 a0_2], .agg #[.int .u8 a1_0, .string a1_1, .string a1_2, .string a1_3, .int .i64 a1_4]] w fun e w' => ∃ v0_ : Value, e = .returned (.tuple #[.agg #[v0_, .bool r2, .int .i64 r3], .int .i64 r4]) ∧ Kd.R k71 71 w' w.heap.size (fun _ => True) v0_ r1 ∧ Below w.heap.size w w' := by
 have hu24 := Try.underlying24
 have hu115 := Try.underlying115
 have hu71 := Try.underlying71
 have HR0_0 := a_ hr0_0
 have HC0_0 := a_ hc0_0
 clear hr0_0 hc0_0
 have HB := a_ (Below.refl w.heap.size w)
 have H := h
 unfold disk_done.f at H
 clear h
 obtain ⟨t254, A3, H⟩ := ob_ H
 try dsimp only at H
 by_cases c4 : t254 = 0
 rotate_left
 ·rw [if_neg c4] at H
  obtain ⟨c4b0, c4b1⟩ := bn_ c4
  obtain ⟨rfl, rfl, rfl, rfl⟩ := so4_ H
  go_enter Try.func96, Try.ntmps96
  go_wp2_with (first | ((with_reducible refine gd_ 2 ?_); refine bz_ 2 #[.slice A0_0 l0_0.length c0_0, .bool a0_1, .int .i64 a0_2] 24 ?_; intro gb251 hg w195 BK251 hb; have GE251 := a_ (bs_0 hg HB); replace HB := hB_ (bl_ HB) hb; clear hb hg) | ((with_reducible refine gd_ 3 ?_); refine bz_ 3 #[.int .u8 a1_0, .string a1_1, .string a1_2, .string a1_3, .int .i64 a1_4] 115 ?_; intro gb252 hg w196 BK252 hb; have GE252 := a_ (bs_1 hg HB GE251); replace HB := hB_ (bl_1 HB GE251) hb; have NB251_252 := nB_ hg BK251; have NB252_251 := nC_ hg BK251; replace BK251 := bB_ BK251 hb; clear hb hg) | ((with_reducible refine gd_ 4 ?_); refine bz_ 4 #[.slice none 0 0, .bool false, .int .i64 0] 24 ?_; intro gb253 hg w197 BK253 hb; have GE253 := a_ (bs_2 hg HB GE251 GE252); replace HB := hB_ (bl_2 HB GE251 GE252) hb; have NB251_253 := nB_ hg BK251; have NB253_251 := nC_ hg BK251; replace BK251 := bB_ BK251 hb; have NB252_253 := nB_ hg BK252; have NB253_252 := nC_ hg BK252; replace BK252 := bB_ BK252 hb; clear hb hg; have := NB251_252.out; have := NB252_251.out; have := NB251_253.out; have := NB253_251.out; obtain ⟨hcz200_0, hcz200_1, hcz200_2, hfz200_0, hfz200_1, hfz200_2⟩ := c3_ BK251) | ((with_reducible refine gk_ 37 ?_); refine gl_ (some 15) Try.func37 #[.agg #[.slice A0_0 l0_0.length c0_0, .bool a0_1, .int .i64 a0_2]] ?_; (with_reducible refine (disk_Check.calls _ _ _ _ _ _ _ _ ?side1 ?side2 A3.out).mono ?_); (case side1 => exact cl_ (Kd.C_below HR0_0.out HB.out)); (case side2 => exact HC0_0.out); rintro e w201 ⟨rfl, hb⟩; refine ⟨_, rfl, ?_⟩; replace BK251 := bB_ BK251 hb; replace BK252 := bB_ BK252 hb; replace BK253 := bB_ BK253 hb; replace HB := hB_ (bl_3 HB GE251 GE252 GE253) hb; (try clear hb); have := NB253_252.out; have := NB252_253.out; obtain ⟨hcz203_0, hcz203_1, hcz203_2, hfz203_0, hfz203_1, hfz203_2⟩ := c3_ BK253))
  refine bodyPost_ret (results_ct rfl _ _ gb253 24 #[.slice none 0 0, .bool false, .int .i64 0] (0, 0) _ rfl (bp_0 BK253) Try.underlying24 rfl (by kernel_rfl)) rfl ?_
  exact ⟨_, fz_, nl_, bl_3 HB GE251 GE252 GE253⟩


 rw [if_pos c4] at H
 obtain ⟨c4b0, c4b1⟩ := be_ c4
 clear c4
 obtain ⟨t255, A5, H⟩ := ob_ H
 try dsimp only at H
 by_cases c6 : a0_1 = true
 ·subst c6
  have H1 : (some (t255, true, a0_2, 8)) = some (r1, r2, r3, r4) := by rw [if_pos rfl] at H; exact H
  clear H
  have H := H1
  clear H1
  obtain ⟨rfl, rfl, rfl, rfl⟩ := so4_ H
  go_enter Try.func96, Try.ntmps96
  go_wp2_with (first | ((with_reducible refine gd_ 2 ?_); refine bz_ 2 #[.slice A0_0 l0_0.length c0_0, .bool true, .int .i64 a0_2] 24 ?_; intro gb251 hg w7 BK251 hb; have GE251 := a_ (bs_0 hg HB); replace HB := hB_ (bl_ HB) hb; clear hb hg) | ((with_reducible refine gd_ 3 ?_); refine bz_ 3 #[.int .u8 a1_0, .string a1_1, .string a1_2, .string a1_3, .int .i64 a1_4] 115 ?_; intro gb252 hg w8 BK252 hb; have GE252 := a_ (bs_1 hg HB GE251); replace HB := hB_ (bl_1 HB GE251) hb; have NB251_252 := nB_ hg BK251; have NB252_251 := nC_ hg BK251; replace BK251 := bB_ BK251 hb; clear hb hg) | ((with_reducible refine gd_ 4 ?_); refine bz_ 4 #[.slice none 0 0, .bool false, .int .i64 0] 24 ?_; intro gb253 hg w9 BK253 hb; have GE253 := a_ (bs_2 hg HB GE251 GE252); replace HB := hB_ (bl_2 HB GE251 GE252) hb; have NB251_253 := nB_ hg BK251; have NB253_251 := nC_ hg BK251; replace BK251 := bB_ BK251 hb; have NB252_253 := nB_ hg BK252; have NB253_252 := nC_ hg BK252; replace BK252 := bB_ BK252 hb; clear hb hg; have := NB251_252.out; have := NB252_251.out; have := NB251_253.out; have := NB253_251.out; obtain ⟨hcz12_0, hcz12_1, hcz12_2, hfz12_0, hfz12_1, hfz12_2⟩ := c3_ BK251) | ((with_reducible refine gk_ 37 ?_); refine gl_ (some 15) Try.func37 #[.agg #[.slice A0_0 l0_0.length c0_0, .bool true, .int .i64 a0_2]] ?_; (with_reducible refine (disk_Check.calls _ _ _ _ _ _ _ _ ?side1 ?side2 A3.out).mono ?_); (case side1 => exact cl_ (Kd.C_below HR0_0.out HB.out)); (case side2 => exact HC0_0.out); rintro e w13 ⟨rfl, hb⟩; refine ⟨_, rfl, ?_⟩; replace BK251 := bB_ BK251 hb; replace BK252 := bB_ BK252 hb; replace BK253 := bB_ BK253 hb; replace HB := hB_ (bl_3 HB GE251 GE252 GE253) hb; (try clear hb); obtain ⟨hcz14_0, hcz14_1, hcz14_2, hfz14_0, hfz14_1, hfz14_2⟩ := c3_ BK251) | ((with_reducible refine gk_ 48 ?_); refine gl_ (some 22) Try.func48 #[.slice A0_0 l0_0.length c0_0] ?_; (with_reducible refine (api_File_48.calls _ _ _ _ _ ?side1 ?side2 A5.out).mono ?_); (case side1 => exact cl_ (Kd.C_below HR0_0.out HB.out)); (case side2 => exact HC0_0.out); rintro e w15 ⟨v256, rfl, ho0, hb⟩; refine ⟨_, rfl, ?_⟩; have HO257 := a_ (Kd.R_lower ho0 (below_size (bl_3 HB GE251 GE252 GE253))); replace BK251 := bB_ BK251 hb; replace BK252 := bB_ BK252 hb; replace BK253 := bB_ BK253 hb; replace HB := hB_ (bl_3 HB GE251 GE252 GE253) hb; (try clear hb); (try clear ho0); obtain ⟨Ao16, co16, eo16⟩ := Kd.R_slice HO257.out; subst eo16; obtain ⟨hcz17_0, hcz17_1, hcz17_2, hfz17_0, hfz17_1, hfz17_2⟩ := c3_ BK251; have := NB253_252.out; have := NB252_253.out; obtain ⟨hcz19_0, hcz19_1, hcz19_2, hfz19_0, hfz19_1, hfz19_2⟩ := c3_ BK253))
  refine bodyPost_ret (results_ct rfl _ _ gb253 24 #[.slice Ao16 t255.length co16, .bool true, .int .i64 a0_2] (0, 0) _ rfl (bp_1 BK253 NB253_251) Try.underlying24 rfl (by kernel_rfl)) rfl ?_
  exact ⟨_, fz_, by refine rq_ ?_; exact rf2_ HO257 BK251 BK253, bl_3 HB GE251 GE252 GE253⟩
 replace c6 := Bool.eq_false_iff.mpr c6
 subst c6
 have H1 : ((disk_change_refused.f k a1_0 a1_1 a1_2 a1_3 a1_4 t255 false a0_2).bind fun t258 => (if t258 = 0 then ((disk_place.f k t255 false a0_2 a1_1).bind fun bt259 => (if a1_0 = 0 then (if bt259.2 = true then (if 0 ≤ bt259.1 then (if bt259.1 < (t255.length : Int) then (if ((rd_T71 t255 bt259.1).f1).size + a1_3.size ≤ 9223372036854775807 then (disk_done.j0 k bt259.1 (t255.set (bt259.1 : Int).toNat (⟨(rd_T71 t255 bt259.1).f0, ((rd_T71 t255 bt259.1).f1) ++ a1_3, (rd_T71 t255 bt259.1).f2⟩ : S71)) false a0_2 a1_0 a1_1 a1_2 a1_3 a1_4) else (none)) else (none)) else (none)) else ((api_File_108.f t255 bt259.1 (([(⟨a1_1, (⟨#[]⟩ : ByteArray), 0⟩ : S71)] : List (S71)))).bind fun t266 => (if 0 ≤ bt259.1 then (if bt259.1 < (t266.length : Int) then (if ((rd_T71 t266 bt259.1).f1).size + a1_3.size ≤ 9223372036854775807 then (disk_done.j0 k bt259.1 (t266.set (bt259.1 : Int).toNat (⟨(rd_T71 t266 bt259.1).f0, ((rd_T71 t266 bt259.1).f1) ++ a1_3, (rd_T71 t266 bt259.1).f2⟩ : S71)) false a0_2 a1_0 a1_1 a1_2 a1_3 a1_4) else (none)) else (none)) else (none)))) else (disk_done.j0 k bt259.1 t255 false a0_2 a1_0 a1_1 a1_2 a1_3 a1_4))) else (some (t255, false, a0_2, t258)))) = some (r1, r2, r3, r4) := by rw [if_neg (show ¬ (false = true) by decide)] at H; exact H
 clear H
 have H := H1
 clear H1
 obtain ⟨t258, A20, H⟩ := ob_ H
 try dsimp only at H
 by_cases c21 : t258 = 0
 rotate_left
 ·rw [if_neg c21] at H
  obtain ⟨c21b0, c21b1⟩ := bn_ c21
  obtain ⟨rfl, rfl, rfl, rfl⟩ := so4_ H
  go_enter Try.func96, Try.ntmps96
  go_wp2_with (first | ((with_reducible refine gd_ 2 ?_); refine bz_ 2 #[.slice A0_0 l0_0.length c0_0, .bool false, .int .i64 a0_2] 24 ?_; intro gb251 hg w179 BK251 hb; have GE251 := a_ (bs_0 hg HB); replace HB := hB_ (bl_ HB) hb; clear hb hg) | ((with_reducible refine gd_ 3 ?_); refine bz_ 3 #[.int .u8 a1_0, .string a1_1, .string a1_2, .string a1_3, .int .i64 a1_4] 115 ?_; intro gb252 hg w180 BK252 hb; have GE252 := a_ (bs_1 hg HB GE251); replace HB := hB_ (bl_1 HB GE251) hb; have NB251_252 := nB_ hg BK251; have NB252_251 := nC_ hg BK251; replace BK251 := bB_ BK251 hb; clear hb hg) | ((with_reducible refine gd_ 4 ?_); refine bz_ 4 #[.slice none 0 0, .bool false, .int .i64 0] 24 ?_; intro gb253 hg w181 BK253 hb; have GE253 := a_ (bs_2 hg HB GE251 GE252); replace HB := hB_ (bl_2 HB GE251 GE252) hb; have NB251_253 := nB_ hg BK251; have NB253_251 := nC_ hg BK251; replace BK251 := bB_ BK251 hb; have NB252_253 := nB_ hg BK252; have NB253_252 := nC_ hg BK252; replace BK252 := bB_ BK252 hb; clear hb hg; have := NB251_252.out; have := NB252_251.out; have := NB251_253.out; have := NB253_251.out; obtain ⟨hcz184_0, hcz184_1, hcz184_2, hfz184_0, hfz184_1, hfz184_2⟩ := c3_ BK251) | ((with_reducible refine gk_ 37 ?_); refine gl_ (some 15) Try.func37 #[.agg #[.slice A0_0 l0_0.length c0_0, .bool false, .int .i64 a0_2]] ?_; (with_reducible refine (disk_Check.calls _ _ _ _ _ _ _ _ ?side1 ?side2 A3.out).mono ?_); (case side1 => exact cl_ (Kd.C_below HR0_0.out HB.out)); (case side2 => exact HC0_0.out); rintro e w185 ⟨rfl, hb⟩; refine ⟨_, rfl, ?_⟩; replace BK251 := bB_ BK251 hb; replace BK252 := bB_ BK252 hb; replace BK253 := bB_ BK253 hb; replace HB := hB_ (bl_3 HB GE251 GE252 GE253) hb; (try clear hb); obtain ⟨hcz186_0, hcz186_1, hcz186_2, hfz186_0, hfz186_1, hfz186_2⟩ := c3_ BK251) | ((with_reducible refine gk_ 48 ?_); refine gl_ (some 22) Try.func48 #[.slice A0_0 l0_0.length c0_0] ?_; (with_reducible refine (api_File_48.calls _ _ _ _ _ ?side1 ?side2 A5.out).mono ?_); (case side1 => exact cl_ (Kd.C_below HR0_0.out HB.out)); (case side2 => exact HC0_0.out); rintro e w187 ⟨v256, rfl, ho0, hb⟩; refine ⟨_, rfl, ?_⟩; have HO257 := a_ (Kd.R_lower ho0 (below_size (bl_3 HB GE251 GE252 GE253))); replace BK251 := bB_ BK251 hb; replace BK252 := bB_ BK252 hb; replace BK253 := bB_ BK253 hb; replace HB := hB_ (bl_3 HB GE251 GE252 GE253) hb; (try clear hb); (try clear ho0); obtain ⟨Ao188, co188, eo188⟩ := Kd.R_slice HO257.out; subst eo188; obtain ⟨hcz189_0, hcz189_1, hcz189_2, hfz189_0, hfz189_1, hfz189_2⟩ := c3_ BK251; have := NB252_253.out; have := NB253_252.out; obtain ⟨hcz191_0, hcz191_1, hcz191_2, hcz191_3, hcz191_4, hfz191_0, hfz191_1, hfz191_2, hfz191_3, hfz191_4⟩ := c5_ BK252) | ((with_reducible refine gk_ 107 ?_); refine gl_ (some 29) Try.func107 #[.agg #[.int .u8 a1_0, .string a1_1, .string a1_2, .string a1_3, .int .i64 a1_4], .agg #[.slice Ao188 t255.length co188, .bool false, .int .i64 a0_2]] ?_; (with_reducible refine (disk_change_refused.calls _ _ _ _ _ _ _ _ _ _ _ _ _ ?side1 ?side2 A20.out).mono ?_); (case side1 => refine (Kd.R_reads' (e := 71) (base := w.heap.size) (ok := fun k_ => True) (n := t255.length) (c := co188) ?_).2.2; exact (by refine rq_ ?_; exact (rf1_ HO257 BK251))); (case side2 => exact (Kd.R_reads' HO257.out).2.1); rintro e w192 ⟨rfl, hb⟩; refine ⟨_, rfl, ?_⟩; replace HO257 := a_ (Kd.R_below (by refine rq_ ?_; exact (rf1_ HO257 BK251)) hb); replace BK251 := bw_0 #[.slice Ao188 t255.length co188, .bool false, .int .i64 a0_2] BK251 hb; replace BK252 := bw_1 #[.int .u8 a1_0, .string a1_1, .string a1_2, .string a1_3, .int .i64 a1_4] BK252 NB252_251 hb; replace BK253 := bw_1 #[.slice none 0 0, .bool false, .int .i64 0] BK253 NB253_251 hb; replace HB := hB_ (bl_3 HB GE251 GE252 GE253) hb; (try clear hb); obtain ⟨hcz193_0, hcz193_1, hcz193_2, hfz193_0, hfz193_1, hfz193_2⟩ := c3_ BK251; obtain ⟨hcz194_0, hcz194_1, hcz194_2, hfz194_0, hfz194_1, hfz194_2⟩ := c3_ BK253))
  refine bodyPost_ret (results_ct rfl _ _ gb253 24 #[.slice Ao188 t255.length co188, .bool false, .int .i64 a0_2] (0, 0) _ rfl (bp_0 BK253) Try.underlying24 rfl (by kernel_rfl)) rfl ?_
  exact ⟨_, fz_, by refine rq_ ?_; exact rf1_ HO257 BK253, bl_3 HB GE251 GE252 GE253⟩
 rw [if_pos c21] at H
 obtain ⟨c21b0, c21b1⟩ := be_ c21
 clear c21
 obtain ⟨⟨t259, t260⟩, A22, H⟩ := ob_ H
 try dsimp only at H
 have HC23 := a_ H
 clear H
 go_enter Try.func96, Try.ntmps96
 go_upto_if 43 with (first | ((with_reducible refine gd_ 2 ?_); refine bz_ 2 #[.slice A0_0 l0_0.length c0_0, .bool false, .int .i64 a0_2] 24 ?_; intro gb251 hg w24 BK251 hb; have GE251 := a_ (bs_0 hg HB); replace HB := hB_ (bl_ HB) hb; clear hb hg) | ((with_reducible refine gd_ 3 ?_); refine bz_ 3 #[.int .u8 a1_0, .string a1_1, .string a1_2, .string a1_3, .int .i64 a1_4] 115 ?_; intro gb252 hg w25 BK252 hb; have GE252 := a_ (bs_1 hg HB GE251); replace HB := hB_ (bl_1 HB GE251) hb; have NB251_252 := nB_ hg BK251; have NB252_251 := nC_ hg BK251; replace BK251 := bB_ BK251 hb; clear hb hg) | ((with_reducible refine gd_ 4 ?_); refine bz_ 4 #[.slice none 0 0, .bool false, .int .i64 0] 24 ?_; intro gb253 hg w26 BK253 hb; have GE253 := a_ (bs_2 hg HB GE251 GE252); replace HB := hB_ (bl_2 HB GE251 GE252) hb; have NB251_253 := nB_ hg BK251; have NB253_251 := nC_ hg BK251; replace BK251 := bB_ BK251 hb; have NB252_253 := nB_ hg BK252; have NB253_252 := nC_ hg BK252; replace BK252 := bB_ BK252 hb; clear hb hg; have := NB251_252.out; have := NB252_251.out; have := NB251_253.out; have := NB253_251.out; obtain ⟨hcz29_0, hcz29_1, hcz29_2, hfz29_0, hfz29_1, hfz29_2⟩ := c3_ BK251) | ((with_reducible refine gk_ 37 ?_); refine gl_ (some 15) Try.func37 #[.agg #[.slice A0_0 l0_0.length c0_0, .bool false, .int .i64 a0_2]] ?_; (with_reducible refine (disk_Check.calls _ _ _ _ _ _ _ _ ?side1 ?side2 A3.out).mono ?_); (case side1 => exact cl_ (Kd.C_below HR0_0.out HB.out)); (case side2 => exact HC0_0.out); rintro e w30 ⟨rfl, hb⟩; refine ⟨_, rfl, ?_⟩; replace BK251 := bB_ BK251 hb; replace BK252 := bB_ BK252 hb; replace BK253 := bB_ BK253 hb; replace HB := hB_ (bl_3 HB GE251 GE252 GE253) hb; (try clear hb); obtain ⟨hcz31_0, hcz31_1, hcz31_2, hfz31_0, hfz31_1, hfz31_2⟩ := c3_ BK251) | ((with_reducible refine gk_ 48 ?_); refine gl_ (some 22) Try.func48 #[.slice A0_0 l0_0.length c0_0] ?_; (with_reducible refine (api_File_48.calls _ _ _ _ _ ?side1 ?side2 A5.out).mono ?_); (case side1 => exact cl_ (Kd.C_below HR0_0.out HB.out)); (case side2 => exact HC0_0.out); rintro e w32 ⟨v256, rfl, ho0, hb⟩; refine ⟨_, rfl, ?_⟩; have HO257 := a_ (Kd.R_lower ho0 (below_size (bl_3 HB GE251 GE252 GE253))); replace BK251 := bB_ BK251 hb; replace BK252 := bB_ BK252 hb; replace BK253 := bB_ BK253 hb; replace HB := hB_ (bl_3 HB GE251 GE252 GE253) hb; (try clear hb); (try clear ho0); obtain ⟨Ao33, co33, eo33⟩ := Kd.R_slice HO257.out; subst eo33; obtain ⟨hcz34_0, hcz34_1, hcz34_2, hfz34_0, hfz34_1, hfz34_2⟩ := c3_ BK251; have := NB252_253.out; have := NB253_252.out; obtain ⟨hcz36_0, hcz36_1, hcz36_2, hcz36_3, hcz36_4, hfz36_0, hfz36_1, hfz36_2, hfz36_3, hfz36_4⟩ := c5_ BK252) | ((with_reducible refine gk_ 107 ?_); refine gl_ (some 29) Try.func107 #[.agg #[.int .u8 a1_0, .string a1_1, .string a1_2, .string a1_3, .int .i64 a1_4], .agg #[.slice Ao33 t255.length co33, .bool false, .int .i64 a0_2]] ?_; (with_reducible refine (disk_change_refused.calls _ _ _ _ _ _ _ _ _ _ _ _ _ ?side1 ?side2 A20.out).mono ?_); (case side1 => refine (Kd.R_reads' (e := 71) (base := w.heap.size) (ok := fun k_ => True) (n := t255.length) (c := co33) ?_).2.2; exact (by refine rq_ ?_; exact (rf1_ HO257 BK251))); (case side2 => exact (Kd.R_reads' HO257.out).2.1); rintro e w37 ⟨rfl, hb⟩; refine ⟨_, rfl, ?_⟩; replace HO257 := a_ (Kd.R_below (by refine rq_ ?_; exact (rf1_ HO257 BK251)) hb); replace BK251 := bw_0 #[.slice Ao33 t255.length co33, .bool false, .int .i64 a0_2] BK251 hb; replace BK252 := bw_1 #[.int .u8 a1_0, .string a1_1, .string a1_2, .string a1_3, .int .i64 a1_4] BK252 NB252_251 hb; replace BK253 := bw_1 #[.slice none 0 0, .bool false, .int .i64 0] BK253 NB253_251 hb; replace HB := hB_ (bl_3 HB GE251 GE252 GE253) hb; (try clear hb); obtain ⟨hcz38_0, hcz38_1, hcz38_2, hfz38_0, hfz38_1, hfz38_2⟩ := c3_ BK251; obtain ⟨hcz39_0, hcz39_1, hcz39_2, hcz39_3, hcz39_4, hfz39_0, hfz39_1, hfz39_2, hfz39_3, hfz39_4⟩ := c5_ BK252) | ((with_reducible refine gk_ 50 ?_); refine gl_ (some 38) Try.func50 #[.agg #[.slice Ao33 t255.length co33, .bool false, .int .i64 a0_2], .string a1_1] ?_; (with_reducible refine (disk_place.calls _ _ _ _ _ _ _ _ _ _ ?side1 ?side2 A22.out).mono ?_); (case side1 => exact cl_ ((Kd.R_reads' HO257.out).2.2)); (case side2 => exact (Kd.R_reads' HO257.out).2.1); rintro e w40 ⟨rfl, hb⟩; refine ⟨_, rfl, ?_⟩; replace HO257 := rb_ HO257 hb; replace BK251 := bB_ BK251 hb; replace BK252 := bB_ BK252 hb; replace BK253 := bB_ BK253 hb; replace HB := hB_ (bl_3 HB GE251 GE252 GE253) hb; (try clear hb); obtain ⟨hcz41_0, hcz41_1, hcz41_2, hcz41_3, hcz41_4, hfz41_0, hfz41_1, hfz41_2, hfz41_3, hfz41_4⟩ := c5_ BK252))
 (try simp only [Act.put, List.setIfInBounds_toArray, List.set_cons_zero, List.set_cons_succ])
 go_cut [] (fun wc => ∃ (kq : Nat) (x252000_22 : List (S71)) (u252000 : Value), Aside0 (disk_done.j0 kq t259 x252000_22 false a0_2 a1_0 a1_1 a1_2 a1_3 a1_4 = some (r1, r2, r3, r4)) ∧ Aside0 (kq ≤ k) ∧ Aside0 (Kd.R k71 71 wc w.heap.size (fun _ => True) u252000 x252000_22) ∧ Aside0 (wc.heap[gb251]? = some (.cells #[u252000, .bool false, .int .i64 a0_2] 24 (0, 0))) ∧ Aside0 (wc.heap[gb252]? = some (.cells #[.int .u8 a1_0, .string a1_1, .string a1_2, .string a1_3, .int .i64 a1_4] 115 (0, 0))) ∧ Aside0 (wc.heap[gb253]? = some (.cells #[(.slice none 0 0), .bool false, .int .i64 0] 24 (0, 0))) ∧ Aside0 (Below w.heap.size w wc))
 case first =>
  have H := HC23.out
  clear HC23
  by_cases c42 : a1_0 = 0
  rotate_left
  ·rw [if_neg c42] at H
   obtain ⟨c42b0, c42b1⟩ := bn_ c42
   (first | rw [c42b0] | (simp only [i64_w, i32_w]; rw [c42b0]) | skip)
   have H' := a_ H
   clear H
   go_wp2
   go_meet
   case rel => exact ⟨_, (t255), (.slice Ao33 t255.length co33), H', ⟨by first | omega | exact Nat.le_refl _⟩, ⟨by refine rq_ ?_; exact HO257.out⟩, ⟨bk_ BK251⟩, ⟨bk_ BK252⟩, ⟨bk_ BK253⟩, ⟨bl_3 HB GE251 GE252 GE253⟩⟩
  rw [if_pos c42] at H
  obtain ⟨c42b0, c42b1⟩ := be_ c42
  clear c42
  (first | rw [c42b0] | (simp only [i64_w, i32_w]; rw [c42b0]) | skip)
  by_cases c43 : t260 = true
  ·subst c43
   have H1 : (if 0 ≤ t259 then (if t259 < (t255.length : Int) then (if ((rd_T71 t255 t259).f1).size + a1_3.size ≤ 9223372036854775807 then (disk_done.j0 k t259 (t255.set (t259 : Int).toNat (⟨(rd_T71 t255 t259).f0, ((rd_T71 t255 t259).f1) ++ a1_3, (rd_T71 t255 t259).f2⟩ : S71)) false a0_2 a1_0 a1_1 a1_2 a1_3 a1_4) else (none)) else (none)) else (none)) = some (r1, r2, r3, r4) := by rw [if_pos rfl] at H; exact H
   clear H
   have H := H1
   clear H1
   replace H := ip_ H
   obtain ⟨-, c44b0, H⟩ := H
   replace H := ip_ H
   obtain ⟨-, c45b0, H⟩ := H
   replace H := iq_ H
   obtain ⟨c46, H⟩ := H
   have c46b0 := eq_true c46
   have c46b1 : decide (((rd_T71 t255 t259).f1).size + a1_3.size ≤ 9223372036854775807) = true := decide_eq_true c46
   try have c46b2 : (9223372036854775807 < ((rd_T71 t255 t259).f1).size + a1_3.size) = False := eq_false (Nat.not_lt.2 c46)
   clear c46
   obtain ⟨y262, hy262⟩ : ∃ y_ : List (S71), y_ = (t255.set (t259 : Int).toNat (⟨(rd_T71 t255 t259).f0, ((rd_T71 t255 t259).f1) ++ a1_3, (rd_T71 t255 t259).f2⟩ : S71)) := ⟨_, rfl⟩
   replace H : (disk_done.j0 k t259 y262 false a0_2 a1_0 a1_1 a1_2 a1_3 a1_4) = some (r1, r2, r3, r4) := by first | (rw [hy262]; with_reducible exact H) | (have H2_ := (Option.bind_some _ _).symm.trans H; rw [hy262]; with_reducible exact H2_) | (have H2_ := (Option.bind_some _ _).symm.trans H; with_reducible exact H2_) | with_reducible exact H | (rw [hy262]; exact H) | exact H
   have Ny262 := a_ hy262
   clear hy262
   have H' := a_ H
   clear H
   try go_wp2
   have n0_ := a_ (Kd.R_drew HO257.out)
   have n1_ := a_ (blk_drew BK251.out)
   have n2_ := a_ (blk_drew BK252.out)
   have n3_ := a_ (blk_drew BK253.out)
   have n4_ := a_ (below_drew1 HB.out)
   clear HO257
   clear BK251
   clear BK252
   clear BK253
   clear HB
   have HO257 := n0_
   have BK251 := n1_
   have BK252 := n2_
   have BK253 := n3_
   have HB := n4_
   clear n0_ n1_ n2_ n3_ n4_
   have p261 : 0 ≤ (t259 : Int) := od_
   have q261 : t259 < (t255.length : Int) := od_
   obtain ⟨ad261, e261, hx261_0, hx261_1, hx261_2⟩ := at_T71 (Kd.R_reads' HO257.out).2.2 t259 p261 q261
   cases e261
   replace p261 := eq_true p261
   replace q261 := eq_true q261
   have p47 : 0 ≤ (t259 : Int) := od_
   have q47 : (t259 : Int) < ((t255.length : Int) : Int) := od_
   obtain ⟨go47, co47, eo47, gb47, gl47, cl47, HG47⟩ := Kd.R_form HO257.out (by omega)
   (first | cases eo47 | (injection eo47 with ea_ en_ ec_; (first | subst ea_ | (injection ea_ with ea_; subst ea_)); subst ec_; clear en_))
   have GB47 := a_ gb47
   have GG47 := a_ HG47
   clear gb47 gl47 HG47
   (first | simp only [add_plain] at hx261_0 | skip)
   (first | simp only [add_plain] at hx261_1 | skip)
   (first | simp only [add_plain] at hx261_2 | skip)
   obtain ⟨ce47, hcl47, hM47, hcc47, hfr47⟩ := Kd.R_elem HO257.out z71 (t259 : Int) p47 q47
   obtain rfl := k71_openM hM47
   have hx47_0 : World.cell? _ ⟨go47, (t259 : Int).toNat * 3, none⟩ = some (.string ((rd_T71 t255 t259).f0)) := hcc47 0 _ rfl
   have hx47_1 : World.cell? _ ⟨go47, (t259 : Int).toNat * 3 + 1, none⟩ = some (.string ((rd_T71 t255 t259).f1)) := hcc47 1 _ rfl
   have hx47_2 : World.cell? _ ⟨go47, (t259 : Int).toNat * 3 + 2, none⟩ = some (.int .i64 ((rd_T71 t255 t259).f2)) := hcc47 2 _ rfl
   have hf47_0 : World.frozen? _ ⟨go47, (t259 : Int).toNat * 3, none⟩ = false := hfr47 0
   have hf47_1 : World.frozen? _ ⟨go47, (t259 : Int).toNat * 3 + 1, none⟩ = false := hfr47 1
   have hf47_2 : World.frozen? _ ⟨go47, (t259 : Int).toNat * 3 + 2, none⟩ = false := hfr47 2
   clear hcl47 hcc47 hfr47 hM47
   replace p47 := eq_true p47
   replace q47 := eq_true q47
   obtain ⟨ce49, hcl49, hM49, hcc49, hfr49⟩ := Kd.R_elem HO257.out z71 (t259 : Int) od_ (by have h_ : (t259 : Int) < ((t255.length : Int) : Int) := od_; first | exact h_ | (have e_ := (Kd.R_reads' HO257.out).1; omega) | simpa using h_)
   obtain rfl := k71_openM hM49
   have HP49 := (Kd.R_seg HO257.out (t259 : Int) od_ (by have h_ : (t259 : Int) < ((t255.length : Int) : Int) := od_; first | exact h_ | (have e_ := (Kd.R_reads' HO257.out).1; omega) | simpa using h_) (seg := [.string (((rd_T71 t255 t259).f1) ++ a1_3)]) (j := 1) hcl49 hcc49 (show 2 ≤ 3 from by decide) (x' := (⟨(rd_T71 t255 t259).f0, ((rd_T71 t255 t259).f1) ++ a1_3, (rd_T71 t255 t259).f2⟩ : S71)) (k71_mkM _ _ _ (⟨(rd_T71 t255 t259).f0, ((rd_T71 t255 t259).f1) ++ a1_3, (rd_T71 t255 t259).f2⟩ : S71) ) (fun _ hk => hk)).1
   rw [← Ny262.out] at HP49
   have HQ49 := a_ HP49
   clear hcl49 hcc49 hfr49 hM49 HP49
   refine start_ (n := 12) (S := fun w' => w'.cell? ⟨gb251, 0, none⟩ = some (.slice (some ⟨go47, 0, none⟩) t255.length co33) ∧ w'.cell? ⟨gb251, 1, none⟩ = some (.bool false) ∧ w'.cell? ⟨gb251, 2, none⟩ = some (.int .i64 a0_2) ∧ w'.cell? ⟨gb252, 0, none⟩ = some (.int .u8 a1_0) ∧ w'.cell? ⟨gb252, 1, none⟩ = some (.string a1_1) ∧ w'.cell? ⟨gb252, 2, none⟩ = some (.string a1_2) ∧ w'.cell? ⟨gb252, 3, none⟩ = some (.string a1_3) ∧ w'.cell? ⟨gb252, 4, none⟩ = some (.int .i64 a1_4) ∧ w'.cell? ⟨go47, ((t259).toNat * 3), none⟩ = some (.string ((rd_T71 t255 t259).f0)) ∧ w'.cell? ⟨go47, ((t259).toNat * 3) + 1, none⟩ = some (.string ((rd_T71 t255 t259).f1)) ∧ w'.cell? ⟨go47, ((t259).toNat * 3) + 2, none⟩ = some (.int .i64 ((rd_T71 t255 t259).f2))) (ds := [11]) #[false, false, false, false, false, false, false, false, false, false, false, false] (by kernel_rfl) rfl rfl ⟨(blk_cell BK251.out 0).trans rfl, (blk_cell BK251.out 1).trans rfl, (blk_cell BK251.out 2).trans rfl, (blk_cell BK252.out 0).trans rfl, (blk_cell BK252.out 1).trans rfl, (blk_cell BK252.out 2).trans rfl, (blk_cell BK252.out 3).trans rfl, (blk_cell BK252.out 4).trans rfl, hx261_0, hx261_1, hx261_2⟩ (fun hHeld => ?_); refine with_tabW disk_done.tab14 disk_done.bits14 (fun HT_ HW_ => ?_)
   generalize w40.drew = w48 at HO257 BK251 BK252 BK253 HB GG47 HQ49 hf47_0 hf47_1 hf47_2 hx261_0 hx261_1 hx261_2 hx47_0 hx47_1 hx47_2 hHeld ⊢
   refine pu_ HT_ 0 (some 55) ?_
   refine pu_ HT_ 2 (some 57) ?_
   refine pu_ HT_ 6 (some 61) ?_
   refine ty_ HT_ HW_ 1 (some 56) hHeld ?_
   refine pu_ HT_ 3 (some 58) ?_
   refine pu_ HT_ 4 (some 59) ?_
   refine ty_ HT_ HW_ 5 (some 60) hHeld ?_
   refine ty_ HT_ HW_ 7 (some 62) hHeld ?_
   refine pu_ HT_ 8 (some 63) ?_
   refine pu_ HT_ 9 (some 64) ?_
   refine pu_ HT_ 10 (some 65) ?_
   refine last_ (i := 11) (N := none) #[true, true, true, true, true, true, true, true, true, true, true, true] rfl rfl (one_of HT_.out (by kernel_rfl)) (by decide) (fun K hK => ?_)
   refine skip_ (w1 := ?_) (by rfl) rfl ?_ ?_
   rotate_left
   ·go_simp
    rfl
   refine hK.out _ _ ?_
   clear hK K
   refine done_ (done_of HT_.out (by kernel_rfl)) ?_
   try go_wp2
   go_meet
   case rel => exact ⟨_, (y262), (.slice (some ⟨go47, 0, none⟩) t255.length co33), H', ⟨by first | omega | exact Nat.le_refl _⟩, ⟨by refine rq_ ?_; exact HQ49.out⟩, ⟨by refine bq_ ?_; refine blk_far ?_ (by have h_ := Kd.R_ne HO257.out BK251.out (by decide); intro e_; exact h_ (by rw [e_]; rfl)) _; refine bq_ ?_; exact BK251.out⟩, ⟨by refine bq_ ?_; refine blk_far ?_ (by have h_ := Kd.R_ne HO257.out BK252.out (by decide); intro e_; exact h_ (by rw [e_]; rfl)) _; refine bq_ ?_; exact BK252.out⟩, ⟨by refine bq_ ?_; refine blk_far ?_ (by have h_ := Kd.R_ne HO257.out BK253.out (by decide); intro e_; exact h_ (by rw [e_]; rfl)) _; refine bq_ ?_; exact BK253.out⟩, ⟨bl_4 HB GB47 GE251 GE252 GE253⟩⟩
  replace c43 := Bool.eq_false_iff.mpr c43
  subst c43
  have H1 : ((api_File_108.f t255 t259 (([(⟨a1_1, (⟨#[]⟩ : ByteArray), 0⟩ : S71)] : List (S71)))).bind fun t266 => (if 0 ≤ t259 then (if t259 < (t266.length : Int) then (if ((rd_T71 t266 t259).f1).size + a1_3.size ≤ 9223372036854775807 then (disk_done.j0 k t259 (t266.set (t259 : Int).toNat (⟨(rd_T71 t266 t259).f0, ((rd_T71 t266 t259).f1) ++ a1_3, (rd_T71 t266 t259).f2⟩ : S71)) false a0_2 a1_0 a1_1 a1_2 a1_3 a1_4) else (none)) else (none)) else (none))) = some (r1, r2, r3, r4) := by rw [if_neg (show ¬ (false = true) by decide)] at H; exact H
  clear H
  have H := H1
  clear H1
  obtain ⟨y263, hy263⟩ : ∃ y_ : List (S71), y_ = (([(⟨a1_1, (⟨#[]⟩ : ByteArray), 0⟩ : S71)] : List (S71))) := ⟨_, rfl⟩
  replace H : ((api_File_108.f t255 t259 y263).bind fun t266 => (if 0 ≤ t259 then (if t259 < (t266.length : Int) then (if ((rd_T71 t266 t259).f1).size + a1_3.size ≤ 9223372036854775807 then (disk_done.j0 k t259 (t266.set (t259 : Int).toNat (⟨(rd_T71 t266 t259).f0, ((rd_T71 t266 t259).f1) ++ a1_3, (rd_T71 t266 t259).f2⟩ : S71)) false a0_2 a1_0 a1_1 a1_2 a1_3 a1_4) else (none)) else (none)) else (none))) = some (r1, r2, r3, r4) := by first | (rw [hy263]; with_reducible exact H) | (have H2_ := (Option.bind_some _ _).symm.trans H; rw [hy263]; with_reducible exact H2_) | (have H2_ := (Option.bind_some _ _).symm.trans H; with_reducible exact H2_) | with_reducible exact H | (rw [hy263]; exact H) | exact H
  have Ny263 := a_ hy263
  clear hy263
  obtain ⟨t266, A50, H⟩ := ob_ H
  try dsimp only at H
  replace H := ip_ H
  obtain ⟨-, c51b0, H⟩ := H
  replace H := ip_ H
  obtain ⟨-, c52b0, H⟩ := H
  replace H := iq_ H
  obtain ⟨c53, H⟩ := H
  have c53b0 := eq_true c53
  have c53b1 : decide (((rd_T71 t266 t259).f1).size + a1_3.size ≤ 9223372036854775807) = true := decide_eq_true c53
  try have c53b2 : (9223372036854775807 < ((rd_T71 t266 t259).f1).size + a1_3.size) = False := eq_false (Nat.not_lt.2 c53)
  clear c53
  obtain ⟨y270, hy270⟩ : ∃ y_ : List (S71), y_ = (t266.set (t259 : Int).toNat (⟨(rd_T71 t266 t259).f0, ((rd_T71 t266 t259).f1) ++ a1_3, (rd_T71 t266 t259).f2⟩ : S71)) := ⟨_, rfl⟩
  replace H : (disk_done.j0 k t259 y270 false a0_2 a1_0 a1_1 a1_2 a1_3 a1_4) = some (r1, r2, r3, r4) := by first | (rw [hy270]; with_reducible exact H) | (have H2_ := (Option.bind_some _ _).symm.trans H; rw [hy270]; with_reducible exact H2_) | (have H2_ := (Option.bind_some _ _).symm.trans H; with_reducible exact H2_) | with_reducible exact H | (rw [hy270]; exact H) | exact H
  have Ny270 := a_ hy270
  clear hy270
  have H' := a_ H
  clear H
  have := NB251_252.out
  have := NB252_251.out
  have := NB251_253.out
  have := NB253_251.out
  obtain ⟨hcz57_0, hcz57_1, hcz57_2, hfz57_0, hfz57_1, hfz57_2⟩ := c3_ BK251
  have := NB252_253.out
  have := NB253_252.out
  obtain ⟨hcz59_0, hcz59_1, hcz59_2, hcz59_3, hcz59_4, hfz59_0, hfz59_1, hfz59_2, hfz59_3, hfz59_4⟩ := c5_ BK252
  try go_wp2_with (first | ((with_reducible refine gd_ 52 ?_); refine Kd.R_lit k71 _ 71 ?hg (N := 52) ?hd (xs := ([(⟨a1_1, (⟨#[]⟩ : ByteArray), 0⟩ : S71)] : List (S71))) (inner := [.string a1_1, .string (⟨#[]⟩ : ByteArray), .int .i64 0]) (ok := fun _ => True) (okp := fun _ => True) ?hr ?hp (fun _ hk => hk) trivial (Below.refl _ _) (Nat.le_refl _) (by simp) ?_; (case hd => rfl); (case hg => rfl); (case hr => first | (go_simp; done) | (go_simp; rfl)); (case hp => exact (Reps.c3 (show Kd.M k71 _ _ _ (⟨a1_1, (⟨#[]⟩ : ByteArray), 0⟩ : S71) [.string a1_1, .string (⟨#[]⟩ : ByteArray), .int .i64 0] from (k71_mkM _ _ _ (⟨a1_1, (⟨#[]⟩ : ByteArray), 0⟩ : S71) )) (Reps.none _ _))); intro v264 w60 ho61 hb hg_ hnew_; clear hg_ hnew_; (first | rw [← Ny263.out] at ho61 | (simp only [Int.reduceToNat] at ho61; rw [← Ny263.out] at ho61)); have HO265 := a_ (Kd.R_lower (Kd.R_new' ho61 (Kd.R_lt (by refine rq_ ?_; exact HO257.out))) (below_size (bl_3 HB GE251 GE252 GE253))); replace HO257 := a_ (Kd.R_elder' (by refine rq_ ?_; exact HO257.out) (Kd.R_base ho61) hb); replace BK251 := bB_ BK251 hb; replace BK252 := bB_ BK252 hb; replace BK253 := bB_ BK253 hb; replace HB := hB_ (bl_3 HB GE251 GE252 GE253) hb; clear hb ho61; obtain ⟨Ao62, co62, eo62⟩ := Kd.R_slice HO265.out; subst eo62) | ((with_reducible refine gk_ 108 ?_); refine gl_ (some 53) Try.func108 #[.slice Ao33 t255.length co33, .int .i64 t259, .slice Ao62 y263.length co62] ?_; (with_reducible refine (api_File_108.calls (fun k_ => some k_ = (.slice Ao33 t255.length co33 : Value).ownBlock) _ _ _ (fun k_ => some k_ = (.slice Ao62 y263.length co62 : Value).ownBlock) _ _ _ w _ ?side1 ?side2 ?side3 ?side4 ?side5 A50.out).mono ?_); (case side1 => exact hb3_ HB GE251.out GE252.out GE253.out); (case side2 => exact Kd.R_tight rfl HO257.out); (case side3 => exact fun k_ e_ => (HO257.out.1 k_ e_.symm).2); (case side4 => exact Kd.R_tight rfl HO265.out); (case side5 => exact fun k_ e_ => (HO265.out.1 k_ e_.symm).2); rintro e w63 ⟨v267, rfl, ho0, hb, hkp⟩; refine ⟨_, rfl, ?_⟩; replace BK251 := a_ (blk_kept (bk_ BK251) hkp (fun hs_ => Or.elim hs_ (fun e_ => (fun e_ => (Kd.R_ne HO257.out BK251.out (by decide)) e_) e_) (fun e_ => (fun e_ => (Kd.R_ne HO265.out BK251.out (by decide)) e_) e_))); replace BK252 := a_ (blk_kept (bk_ BK252) hkp (fun hs_ => Or.elim hs_ (fun e_ => (fun e_ => (Kd.R_ne HO257.out BK252.out (by decide)) e_) e_) (fun e_ => (fun e_ => (Kd.R_ne HO265.out BK252.out (by decide)) e_) e_))); replace BK253 := a_ (blk_kept (bk_ BK253) hkp (fun hs_ => Or.elim hs_ (fun e_ => (fun e_ => (Kd.R_ne HO257.out BK253.out (by decide)) e_) e_) (fun e_ => (fun e_ => (Kd.R_ne HO265.out BK253.out (by decide)) e_) e_))); have HO268 := rt_ ho0; replace HB := a_ (hb); clear HO257; clear HO265; (try clear hb); (try clear hkp); (try clear ho0); obtain ⟨Ao64, co64, eo64⟩ := Kd.R_slice HO268.out; subst eo64; obtain ⟨hcz65_0, hcz65_1, hcz65_2, hfz65_0, hfz65_1, hfz65_2⟩ := c3_ BK251))
  have n0_ : Aside0 (Kd.R k71 71 (w63.setCell ⟨gb251, 0, none⟩ (.slice Ao64 t266.length co64)) w.heap.size (fun _ => True) (.slice Ao64 t266.length co64) t266) := ⟨by refine rq_ ?_; exact rf1_ HO268 BK251⟩
  have n1_ : Aside0 ((w63.setCell ⟨gb251, 0, none⟩ (.slice Ao64 t266.length co64)).heap[gb251]? = some (.cells #[.slice Ao64 t266.length co64, .bool false, .int .i64 a0_2] 24 (0, 0))) := ⟨by refine bq_ ?_; refine blk_put (cs := #[.slice Ao33 t255.length co33, .bool false, .int .i64 a0_2]) ?_ 0 _ rfl; refine bq_ ?_; exact BK251.out⟩
  have n2_ : Aside0 ((w63.setCell ⟨gb251, 0, none⟩ (.slice Ao64 t266.length co64)).heap[gb252]? = some (.cells #[.int .u8 a1_0, .string a1_1, .string a1_2, .string a1_3, .int .i64 a1_4] 115 (0, 0))) := ⟨by refine bq_ ?_; refine blk_far ?_ NB252_251.out _; refine bq_ ?_; exact BK252.out⟩
  have n3_ : Aside0 ((w63.setCell ⟨gb251, 0, none⟩ (.slice Ao64 t266.length co64)).heap[gb253]? = some (.cells #[.slice none 0 0, .bool false, .int .i64 0] 24 (0, 0))) := ⟨by refine bq_ ?_; refine blk_far ?_ NB253_251.out _; refine bq_ ?_; exact BK253.out⟩
  have n4_ : Aside0 (Below w.heap.size w (w63.setCell ⟨gb251, 0, none⟩ (.slice Ao64 t266.length co64))) := ⟨bl_3 HB GE251 GE252 GE253⟩
  (try clear HO268)
  (try clear BK251)
  (try clear BK252)
  (try clear BK253)
  (try clear HB)
  generalize (w63.setCell ⟨gb251, 0, none⟩ (.slice Ao64 t266.length co64)) = w66 at n0_ n1_ n2_ n3_ n4_ ⊢
  have HO268 := n0_
  have BK251 := n1_
  have BK252 := n2_
  have BK253 := n3_
  have HB := n4_
  clear n0_ n1_ n2_ n3_ n4_
  have n0_ := a_ (Kd.R_drew HO268.out)
  have n1_ := a_ (blk_drew BK251.out)
  have n2_ := a_ (blk_drew BK252.out)
  have n3_ := a_ (blk_drew BK253.out)
  have n4_ := a_ (below_drew1 HB.out)
  clear HO268
  clear BK251
  clear BK252
  clear BK253
  clear HB
  have HO268 := n0_
  have BK251 := n1_
  have BK252 := n2_
  have BK253 := n3_
  have HB := n4_
  clear n0_ n1_ n2_ n3_ n4_
  have p269 : 0 ≤ (t259 : Int) := od_
  have q269 : t259 < (t266.length : Int) := od_
  obtain ⟨ad269, e269, hx269_0, hx269_1, hx269_2⟩ := at_T71 (Kd.R_reads' HO268.out).2.2 t259 p269 q269
  cases e269
  replace p269 := eq_true p269
  replace q269 := eq_true q269
  have p54 : 0 ≤ (t259 : Int) := od_
  have q54 : (t259 : Int) < ((t266.length : Int) : Int) := od_
  obtain ⟨go54, co54, eo54, gb54, gl54, cl54, HG54⟩ := Kd.R_form HO268.out (by omega)
  (first | cases eo54 | (injection eo54 with ea_ en_ ec_; (first | subst ea_ | (injection ea_ with ea_; subst ea_)); subst ec_; clear en_))
  have GB54 := a_ gb54
  have GG54 := a_ HG54
  clear gb54 gl54 HG54
  (first | simp only [add_plain] at hx269_0 | skip)
  (first | simp only [add_plain] at hx269_1 | skip)
  (first | simp only [add_plain] at hx269_2 | skip)
  obtain ⟨ce54, hcl54, hM54, hcc54, hfr54⟩ := Kd.R_elem HO268.out z71 (t259 : Int) p54 q54
  obtain rfl := k71_openM hM54
  have hx54_0 : World.cell? _ ⟨go54, (t259 : Int).toNat * 3, none⟩ = some (.string ((rd_T71 t266 t259).f0)) := hcc54 0 _ rfl
  have hx54_1 : World.cell? _ ⟨go54, (t259 : Int).toNat * 3 + 1, none⟩ = some (.string ((rd_T71 t266 t259).f1)) := hcc54 1 _ rfl
  have hx54_2 : World.cell? _ ⟨go54, (t259 : Int).toNat * 3 + 2, none⟩ = some (.int .i64 ((rd_T71 t266 t259).f2)) := hcc54 2 _ rfl
  have hf54_0 : World.frozen? _ ⟨go54, (t259 : Int).toNat * 3, none⟩ = false := hfr54 0
  have hf54_1 : World.frozen? _ ⟨go54, (t259 : Int).toNat * 3 + 1, none⟩ = false := hfr54 1
  have hf54_2 : World.frozen? _ ⟨go54, (t259 : Int).toNat * 3 + 2, none⟩ = false := hfr54 2
  clear hcl54 hcc54 hfr54 hM54
  replace p54 := eq_true p54
  replace q54 := eq_true q54
  obtain ⟨ce68, hcl68, hM68, hcc68, hfr68⟩ := Kd.R_elem HO268.out z71 (t259 : Int) od_ (by have h_ : (t259 : Int) < ((t266.length : Int) : Int) := od_; first | exact h_ | (have e_ := (Kd.R_reads' HO268.out).1; omega) | simpa using h_)
  obtain rfl := k71_openM hM68
  have HP68 := (Kd.R_seg HO268.out (t259 : Int) od_ (by have h_ : (t259 : Int) < ((t266.length : Int) : Int) := od_; first | exact h_ | (have e_ := (Kd.R_reads' HO268.out).1; omega) | simpa using h_) (seg := [.string (((rd_T71 t266 t259).f1) ++ a1_3)]) (j := 1) hcl68 hcc68 (show 2 ≤ 3 from by decide) (x' := (⟨(rd_T71 t266 t259).f0, ((rd_T71 t266 t259).f1) ++ a1_3, (rd_T71 t266 t259).f2⟩ : S71)) (k71_mkM _ _ _ (⟨(rd_T71 t266 t259).f0, ((rd_T71 t266 t259).f1) ++ a1_3, (rd_T71 t266 t259).f2⟩ : S71) ) (fun _ hk => hk)).1
  rw [← Ny270.out] at HP68
  have HQ68 := a_ HP68
  clear hcl68 hcc68 hfr68 hM68 HP68
  refine start_ (n := 12) (S := fun w' => w'.cell? ⟨gb251, 0, none⟩ = some (.slice (some ⟨go54, 0, none⟩) t266.length co64) ∧ w'.cell? ⟨gb251, 1, none⟩ = some (.bool false) ∧ w'.cell? ⟨gb251, 2, none⟩ = some (.int .i64 a0_2) ∧ w'.cell? ⟨gb252, 0, none⟩ = some (.int .u8 a1_0) ∧ w'.cell? ⟨gb252, 1, none⟩ = some (.string a1_1) ∧ w'.cell? ⟨gb252, 2, none⟩ = some (.string a1_2) ∧ w'.cell? ⟨gb252, 3, none⟩ = some (.string a1_3) ∧ w'.cell? ⟨gb252, 4, none⟩ = some (.int .i64 a1_4) ∧ w'.cell? ⟨go54, ((t259).toNat * 3), none⟩ = some (.string ((rd_T71 t266 t259).f0)) ∧ w'.cell? ⟨go54, ((t259).toNat * 3) + 1, none⟩ = some (.string ((rd_T71 t266 t259).f1)) ∧ w'.cell? ⟨go54, ((t259).toNat * 3) + 2, none⟩ = some (.int .i64 ((rd_T71 t266 t259).f2))) (ds := [11]) #[false, false, false, false, false, false, false, false, false, false, false, false] (by kernel_rfl) rfl rfl ⟨(blk_cell BK251.out 0).trans rfl, (blk_cell BK251.out 1).trans rfl, (blk_cell BK251.out 2).trans rfl, (blk_cell BK252.out 0).trans rfl, (blk_cell BK252.out 1).trans rfl, (blk_cell BK252.out 2).trans rfl, (blk_cell BK252.out 3).trans rfl, (blk_cell BK252.out 4).trans rfl, hx269_0, hx269_1, hx269_2⟩ (fun hHeld => ?_); refine with_tabW disk_done.tab14 disk_done.bits14 (fun HT_ HW_ => ?_)
  generalize w66.drew = w67 at HO268 BK251 BK252 BK253 HB GG54 HQ68 hf54_0 hf54_1 hf54_2 hx269_0 hx269_1 hx269_2 hx54_0 hx54_1 hx54_2 hHeld ⊢
  refine pu_ HT_ 0 (some 55) ?_
  refine pu_ HT_ 2 (some 57) ?_
  refine pu_ HT_ 6 (some 61) ?_
  refine ty_ HT_ HW_ 1 (some 56) hHeld ?_
  refine pu_ HT_ 3 (some 58) ?_
  refine pu_ HT_ 4 (some 59) ?_
  refine ty_ HT_ HW_ 5 (some 60) hHeld ?_
  refine ty_ HT_ HW_ 7 (some 62) hHeld ?_
  refine pu_ HT_ 8 (some 63) ?_
  refine pu_ HT_ 9 (some 64) ?_
  refine pu_ HT_ 10 (some 65) ?_
  refine last_ (i := 11) (N := none) #[true, true, true, true, true, true, true, true, true, true, true, true] rfl rfl (one_of HT_.out (by kernel_rfl)) (by decide) (fun K hK => ?_)
  refine skip_ (w1 := ?_) (by rfl) rfl ?_ ?_
  rotate_left
  ·go_simp
   rfl
  refine hK.out _ _ ?_
  clear hK K
  refine done_ (done_of HT_.out (by kernel_rfl)) ?_
  try go_wp2
  go_meet
  case rel => exact ⟨_, (y270), (.slice (some ⟨go54, 0, none⟩) t266.length co64), H', ⟨by first | omega | exact Nat.le_refl _⟩, ⟨by refine rq_ ?_; exact HQ68.out⟩, ⟨by refine bq_ ?_; refine blk_far ?_ (by have h_ := Kd.R_ne HO268.out BK251.out (by decide); intro e_; exact h_ (by rw [e_]; rfl)) _; refine bq_ ?_; exact BK251.out⟩, ⟨by refine bq_ ?_; refine blk_far ?_ (by have h_ := Kd.R_ne HO268.out BK252.out (by decide); intro e_; exact h_ (by rw [e_]; rfl)) _; refine bq_ ?_; exact BK252.out⟩, ⟨by refine bq_ ?_; refine blk_far ?_ (by have h_ := Kd.R_ne HO268.out BK253.out (by decide); intro e_; exact h_ (by rw [e_]; rfl)) _; refine bq_ ?_; exact BK253.out⟩, ⟨bl_4 HB GB54 GE251 GE252 GE253⟩⟩
 case rest =>
  clear HC23
  try clear c4
  try clear c4b0
  try clear c4b1
  try clear c6
  try clear c21
  try clear c21b0
  try clear c21b1
  obtain ⟨kq, x252000_22, u252000, HA, HJ22, HO_252000, BK251, BK252, BK253, HB⟩ := hcut
  cases kq with
  | zero => exact absurd HA.out (by simp [disk_done.j0])
  | succ kj22 =>
   have H := HA.out
   clear HA
   simp only [disk_done.j0] at H
   by_cases c69 : a0_2 = 0
   ·rw [if_pos c69] at H
    obtain ⟨c69b0, c69b1⟩ := be_ c69
    clear c69
    obtain ⟨rfl, rfl, rfl, rfl⟩ := so4_ H
    have := NB251_252.out
    have := NB252_251.out
    have := NB251_253.out
    have := NB253_251.out
    obtain ⟨hcz72_0, hcz72_1, hcz72_2, hfz72_0, hfz72_1, hfz72_2⟩ := c3_ BK251
    obtain ⟨Ao73, co73, eo73⟩ := Kd.R_slice HO_252000.out
    subst eo73
    have := NB253_252.out
    have := NB252_253.out
    obtain ⟨hcz75_0, hcz75_1, hcz75_2, hfz75_0, hfz75_1, hfz75_2⟩ := c3_ BK253
    go_wp2
    refine bodyPost_ret (results_ct rfl _ _ gb253 24 #[.slice Ao73 x252000_22.length co73, .bool true, .int .i64 a0_2] (0, 0) _ rfl (bp_1 BK253 NB253_251) Try.underlying24 rfl (by kernel_rfl)) rfl ?_
    exact ⟨_, fz_, by refine rq_ ?_; exact rf2_ HO_252000 BK251 BK253, bl_3 HB GE251 GE252 GE253⟩
   rw [if_neg c69] at H
   obtain ⟨c69b0, c69b1⟩ := bn_ c69
   have HC76 := a_ H
   clear H
   have := NB251_252.out
   have := NB252_251.out
   have := NB251_253.out
   have := NB253_251.out
   obtain ⟨hcz79_0, hcz79_1, hcz79_2, hfz79_0, hfz79_1, hfz79_2⟩ := c3_ BK251
   go_upto_if 73 with (fail)
   go_cut [] (fun wc => ∃ (kq : Nat) (x252002_75 : Int), Aside0 (disk_done.j1 kq t259 x252000_22 false x252002_75 a1_0 a1_1 a1_2 a1_3 a1_4 = some (r1, r2, r3, r4)) ∧ Aside0 (kq ≤ kj22) ∧ Aside0 (Kd.R k71 71 wc w.heap.size (fun _ => True) u252000 x252000_22) ∧ Aside0 (wc.heap[gb251]? = some (.cells #[u252000, .bool false, .int .i64 x252002_75] 24 (0, 0))) ∧ Aside0 (wc.heap[gb252]? = some (.cells #[.int .u8 a1_0, .string a1_1, .string a1_2, .string a1_3, .int .i64 a1_4] 115 (0, 0))) ∧ Aside0 (wc.heap[gb253]? = some (.cells #[(.slice none 0 0), .bool false, .int .i64 0] 24 (0, 0))) ∧ Aside0 (Below w.heap.size w wc))
   case first =>
    have H := HC76.out
    clear HC76
    by_cases c80 : a0_2 > 0
    rotate_left
    ·rw [if_neg c80] at H
     have c80b0 : decide (0 < a0_2) = false := decide_eq_false c80
     clear c80
     (first | rw [c80b0] | (simp only [i64_w, i32_w]; rw [c80b0]) | skip)
     have H' := a_ H
     clear H
     go_wp2
     go_meet
     case rel => exact ⟨_, (a0_2), H', ⟨by have := HJ22.out; first | omega | exact Nat.le_refl _⟩, ⟨by refine rq_ ?_; exact HO_252000.out⟩, ⟨bk_ BK251⟩, ⟨bk_ BK252⟩, ⟨bk_ BK253⟩, ⟨bl_3 HB GE251 GE252 GE253⟩⟩
    rw [if_pos c80] at H
    have c80b0 : decide (0 < a0_2) = true := decide_eq_true c80
    clear c80
    (first | rw [c80b0] | (simp only [i64_w, i32_w]; rw [c80b0]) | skip)
    have H' := a_ H
    clear H
    have := NB251_252.out
    have := NB252_251.out
    have := NB251_253.out
    have := NB253_251.out
    obtain ⟨hcz83_0, hcz83_1, hcz83_2, hfz83_0, hfz83_1, hfz83_2⟩ := c3_ BK251
    go_wp2
    go_meet
    case rel => exact ⟨_, (wrap64 (a0_2 - 1)), H', ⟨by have := HJ22.out; first | omega | exact Nat.le_refl _⟩, ⟨by refine rq_ ?_; exact rf1_ HO_252000 BK251⟩, ⟨by refine bq_ ?_; refine blk_put (cs := #[u252000, .bool false, .int .i64 a0_2]) ?_ 2 _ rfl; refine bq_ ?_; exact BK251.out⟩, ⟨by refine bq_ ?_; refine blk_far ?_ NB252_251.out _; refine bq_ ?_; exact BK252.out⟩, ⟨by refine bq_ ?_; refine blk_far ?_ NB253_251.out _; refine bq_ ?_; exact BK253.out⟩, ⟨bl_3 HB GE251 GE252 GE253⟩⟩
   case rest =>
    clear HC76
    try clear c4
    try clear c4b0
    try clear c4b1
    try clear c6
    try clear c21
    try clear c21b0
    try clear c21b1
    try clear c69
    try clear c69b0
    try clear c69b1
    obtain ⟨kq, x252002_75, HA, HJ75, HO_252000, BK251, BK252, BK253, HB⟩ := hcut
    cases kq with
    | zero => exact absurd HA.out (by simp [disk_done.j1])
    | succ kj75 =>
     have H := HA.out
     clear HA
     simp only [disk_done.j1] at H
     replace H := ip_ H
     obtain ⟨-, c84b0, H⟩ := H
     replace H := ip_ H
     obtain ⟨-, c85b0, H⟩ := H
     by_cases c87 : a1_0 = 1
     ·rw [if_pos c87] at H
      obtain ⟨c87b0, c87b1⟩ := be_ c87
      clear c87
      obtain ⟨y272, hy272⟩ : ∃ y_ : List (S71), y_ = (x252000_22.set (t259 : Int).toNat (⟨(rd_T71 x252000_22 t259).f0, (rd_T71 x252000_22 t259).f1, (((rd_T71 x252000_22 t259).f1).size : Int)⟩ : S71)) := ⟨_, rfl⟩
      replace H : (some (y272, false, x252002_75, 0)) = some (r1, r2, r3, r4) := by first | (rw [hy272]; with_reducible exact H) | (have H2_ := (Option.bind_some _ _).symm.trans H; rw [hy272]; with_reducible exact H2_) | (have H2_ := (Option.bind_some _ _).symm.trans H; with_reducible exact H2_) | with_reducible exact H | (rw [hy272]; exact H) | exact H
      have Ny272 := a_ hy272
      clear hy272
      obtain ⟨rfl, rfl, rfl, rfl⟩ := so4_ H
      have := NB251_252.out
      have := NB252_251.out
      have := NB251_253.out
      have := NB253_251.out
      obtain ⟨hcz91_0, hcz91_1, hcz91_2, hfz91_0, hfz91_1, hfz91_2⟩ := c3_ BK251
      have p86 : 0 ≤ (t259 : Int) := od_
      have q86 : (t259 : Int) < ((x252000_22.length : Int) : Int) := od_
      obtain ⟨go86, co86, eo86, gb86, gl86, cl86, HG86⟩ := Kd.R_form HO_252000.out (by omega)
      (first | cases eo86 | (injection eo86 with ea_ en_ ec_; (first | subst ea_ | (injection ea_ with ea_; subst ea_)); subst ec_; clear en_))
      have GB86 := a_ gb86
      have GG86 := a_ HG86
      clear gb86 gl86 HG86
      obtain ⟨ce86, hcl86, hM86, hcc86, hfr86⟩ := Kd.R_elem HO_252000.out z71 (t259 : Int) p86 q86
      obtain rfl := k71_openM hM86
      have hx86_0 : wc.cell? ⟨go86, (t259 : Int).toNat * 3, none⟩ = some (.string ((rd_T71 x252000_22 t259).f0)) := hcc86 0 _ rfl
      have hx86_1 : wc.cell? ⟨go86, (t259 : Int).toNat * 3 + 1, none⟩ = some (.string ((rd_T71 x252000_22 t259).f1)) := hcc86 1 _ rfl
      have hx86_2 : wc.cell? ⟨go86, (t259 : Int).toNat * 3 + 2, none⟩ = some (.int .i64 ((rd_T71 x252000_22 t259).f2)) := hcc86 2 _ rfl
      have hf86_0 : wc.frozen? ⟨go86, (t259 : Int).toNat * 3, none⟩ = false := hfr86 0
      have hf86_1 : wc.frozen? ⟨go86, (t259 : Int).toNat * 3 + 1, none⟩ = false := hfr86 1
      have hf86_2 : wc.frozen? ⟨go86, (t259 : Int).toNat * 3 + 2, none⟩ = false := hfr86 2
      clear hcl86 hcc86 hfr86 hM86
      replace p86 := eq_true p86
      replace q86 := eq_true q86
      have := NB252_253.out
      have := NB253_252.out
      obtain ⟨hcz93_0, hcz93_1, hcz93_2, hcz93_3, hcz93_4, hfz93_0, hfz93_1, hfz93_2, hfz93_3, hfz93_4⟩ := c5_ BK252
      have p271 : 0 ≤ (t259 : Int) := od_
      have q271 : t259 < (x252000_22.length : Int) := od_
      obtain ⟨ad271, e271, hx271_0, hx271_1, hx271_2⟩ := at_T71 (Kd.R_reads' HO_252000.out).2.2 t259 p271 q271
      obtain rfl : (⟨go86, 0, none⟩ : Addr) = ad271 := (by injection e271)
      (first | simp only [add_plain] at hx271_0 | simp only [add_at] at hx271_0 | simp only [Addr.add, Nat.zero_add] at hx271_0 | skip)
      (first | simp only [add_plain] at hx271_1 | simp only [add_at] at hx271_1 | simp only [Addr.add, Nat.zero_add] at hx271_1 | skip)
      (first | simp only [add_plain] at hx271_2 | simp only [add_at] at hx271_2 | simp only [Addr.add, Nat.zero_add] at hx271_2 | skip)
      replace p271 := eq_true p271
      replace q271 := eq_true q271
      have p88 : 0 ≤ (t259 : Int) := od_
      have q88 : (t259 : Int) < ((x252000_22.length : Int) : Int) := od_
      obtain ⟨ce88, hcl88, hM88, hcc88, hfr88⟩ := Kd.R_elem HO_252000.out z71 (t259 : Int) p88 q88
      obtain rfl := k71_openM hM88
      have hx88_0 : wc.cell? ⟨go86, (t259 : Int).toNat * 3, none⟩ = some (.string ((rd_T71 x252000_22 t259).f0)) := hcc88 0 _ rfl
      have hx88_1 : wc.cell? ⟨go86, (t259 : Int).toNat * 3 + 1, none⟩ = some (.string ((rd_T71 x252000_22 t259).f1)) := hcc88 1 _ rfl
      have hx88_2 : wc.cell? ⟨go86, (t259 : Int).toNat * 3 + 2, none⟩ = some (.int .i64 ((rd_T71 x252000_22 t259).f2)) := hcc88 2 _ rfl
      have hf88_0 : wc.frozen? ⟨go86, (t259 : Int).toNat * 3, none⟩ = false := hfr88 0
      have hf88_1 : wc.frozen? ⟨go86, (t259 : Int).toNat * 3 + 1, none⟩ = false := hfr88 1
      have hf88_2 : wc.frozen? ⟨go86, (t259 : Int).toNat * 3 + 2, none⟩ = false := hfr88 2
      clear hcl88 hcc88 hfr88 hM88
      replace p88 := eq_true p88
      replace q88 := eq_true q88
      have HX94 := a_ (show Kd.R k71 71 wc w.heap.size (fun _ => True) (.slice (some ⟨go86, 0, none⟩) x252000_22.length co86) x252000_22 from (by refine rq_ ?_; exact HO_252000.out))
      obtain ⟨ce94, hcl94, hM94, hcc94, hfr94⟩ := Kd.R_elem HX94.out z71 (t259 : Int) od_ (by have h_ : (t259 : Int) < ((x252000_22.length : Int) : Int) := od_; first | exact h_ | (have e_ := (Kd.R_reads' HO_252000.out).1; omega) | simpa using h_)
      obtain rfl := k71_openM hM94
      have HP94 := Kd.R_seg HX94.out (t259 : Int) od_ (by have h_ : (t259 : Int) < ((x252000_22.length : Int) : Int) := od_; first | exact h_ | (have e_ := (Kd.R_reads' HO_252000.out).1; omega) | simpa using h_) (seg := [.int .i64 (((rd_T71 x252000_22 t259).f1).size : Int)]) (j := 2) hcl94 hcc94 (show 3 ≤ 3 from by decide) (x' := (⟨(rd_T71 x252000_22 t259).f0, (rd_T71 x252000_22 t259).f1, (((rd_T71 x252000_22 t259).f1).size : Int)⟩ : S71)) (k71_mkM _ _ _ (⟨(rd_T71 x252000_22 t259).f0, (rd_T71 x252000_22 t259).f1, (((rd_T71 x252000_22 t259).f1).size : Int)⟩ : S71) ) (fun _ hk => hk)
      have hx94_2 := hcc94 2 _ rfl
      (try simp only [show (k71).sz = 3 from rfl, Nat.mul_one, Nat.add_zero] at hx94_2)
      have hf94_2 := hfr94 2
      (try simp only [show (k71).sz = 3 from rfl, Nat.mul_one, Nat.add_zero] at hf94_2)
      clear hcl94 hcc94 hfr94 hM94
      go_wp2_with (first | ((with_reducible refine gate_store (t := 3) (p := 93) rfl ?_); refine store_event (t := 3) (p := 93) (v := ?vo_w95) (w1 := (wc.setCell ⟨go86, (t259 : Int).toNat * 3 + 2, none⟩ (.int .i64 (((rd_T71 x252000_22 t259).f1).size : Int)))) ?hg ?ho ?hn ?hr ?_; (case ho => rfl); (case hg => rfl); (case hn => rfl); (case hr => first | (go_simp; done) | (go_simp; rfl)); intro w95 hw; have hg : wc.grownBy w95 (some go86) := (by rw [hw]; exact HP94.2); have hp_ : Kd.R k71 71 w95 w.heap.size (fun _ => True) (.slice (some ⟨go86, 0, none⟩) x252000_22.length co86) y272 := (by rw [hw, Ny272.out]; exact HP94.1); clear HP94; replace BK251 := a_ (blk_grown (g := gb251) (o := .cells #[.slice (some ⟨go86, 0, none⟩) x252000_22.length co86, .bool false, .int .i64 x252002_75] 24 (0, 0)) (bk_ BK251) hg (Kd.R_ne HO_252000.out BK251.out (by decide))); replace BK252 := a_ (blk_grown (g := gb252) (o := .cells #[.int .u8 a1_0, .string a1_1, .string a1_2, .string a1_3, .int .i64 a1_4] 115 (0, 0)) (bk_ BK252) hg (Kd.R_ne HO_252000.out BK252.out (by decide))); replace BK253 := a_ (blk_grown (g := gb253) (o := .cells #[.slice none 0 0, .bool false, .int .i64 0] 24 (0, 0)) (bk_ BK253) hg (Kd.R_ne HO_252000.out BK253.out (by decide))); replace HO_252000 := a_ (hp_); replace HB := a_ ((by rw [hw]; exact below_set (HB.out) GB86.out : Below w.heap.size w w95)); clear hg hw hp_; obtain ⟨hcz96_0, hcz96_1, hcz96_2, hfz96_0, hfz96_1, hfz96_2⟩ := c3_ BK251; obtain ⟨hcz97_0, hcz97_1, hcz97_2, hfz97_0, hfz97_1, hfz97_2⟩ := c3_ BK253))
      refine bodyPost_ret (results_ct rfl _ _ gb253 24 #[.slice (some ⟨go86, 0, none⟩) x252000_22.length co86, .bool false, .int .i64 x252002_75] (0, 0) _ rfl (bp_0 BK253) Try.underlying24 rfl (by kernel_rfl)) rfl ?_
      exact ⟨_, fz_, by refine rq_ ?_; exact rf1_ HO_252000 BK253, bl_3 HB GE251 GE252 GE253⟩
     rw [if_neg c87] at H
     obtain ⟨c87b0, c87b1⟩ := bn_ c87
     by_cases c98 : a1_0 = 2
     ·rw [if_pos c98] at H
      exact absurd H (by simp)
     rw [if_neg c98] at H
     obtain ⟨c98b0, c98b1⟩ := bn_ c98
     by_cases c99 : a1_0 = 4
     ·rw [if_pos c99] at H
      obtain ⟨c99b0, c99b1⟩ := be_ c99
      clear c99
      obtain ⟨t273, A100, H⟩ := ob_ H
      try dsimp only at H
      obtain ⟨rfl, rfl, rfl, rfl⟩ := so4_ H
      have := NB251_252.out
      have := NB252_251.out
      have := NB251_253.out
      have := NB253_251.out
      obtain ⟨hcz103_0, hcz103_1, hcz103_2, hfz103_0, hfz103_1, hfz103_2⟩ := c3_ BK251
      have p86 : 0 ≤ (t259 : Int) := od_
      have q86 : (t259 : Int) < ((x252000_22.length : Int) : Int) := od_
      obtain ⟨go86, co86, eo86, gb86, gl86, cl86, HG86⟩ := Kd.R_form HO_252000.out (by omega)
      (first | cases eo86 | (injection eo86 with ea_ en_ ec_; (first | subst ea_ | (injection ea_ with ea_; subst ea_)); subst ec_; clear en_))
      have GB86 := a_ gb86
      have GG86 := a_ HG86
      clear gb86 gl86 HG86
      obtain ⟨ce86, hcl86, hM86, hcc86, hfr86⟩ := Kd.R_elem HO_252000.out z71 (t259 : Int) p86 q86
      obtain rfl := k71_openM hM86
      have hx86_0 : wc.cell? ⟨go86, (t259 : Int).toNat * 3, none⟩ = some (.string ((rd_T71 x252000_22 t259).f0)) := hcc86 0 _ rfl
      have hx86_1 : wc.cell? ⟨go86, (t259 : Int).toNat * 3 + 1, none⟩ = some (.string ((rd_T71 x252000_22 t259).f1)) := hcc86 1 _ rfl
      have hx86_2 : wc.cell? ⟨go86, (t259 : Int).toNat * 3 + 2, none⟩ = some (.int .i64 ((rd_T71 x252000_22 t259).f2)) := hcc86 2 _ rfl
      have hf86_0 : wc.frozen? ⟨go86, (t259 : Int).toNat * 3, none⟩ = false := hfr86 0
      have hf86_1 : wc.frozen? ⟨go86, (t259 : Int).toNat * 3 + 1, none⟩ = false := hfr86 1
      have hf86_2 : wc.frozen? ⟨go86, (t259 : Int).toNat * 3 + 2, none⟩ = false := hfr86 2
      clear hcl86 hcc86 hfr86 hM86
      replace p86 := eq_true p86
      replace q86 := eq_true q86
      have := NB252_253.out
      have := NB253_252.out
      obtain ⟨hcz105_0, hcz105_1, hcz105_2, hcz105_3, hcz105_4, hfz105_0, hfz105_1, hfz105_2, hfz105_3, hfz105_4⟩ := c5_ BK252
      go_wp2_with (first | ((with_reducible refine gk_ 109 ?_); refine gl_ (some 123) Try.func109 #[.slice (some ⟨go86, 0, none⟩) x252000_22.length co86, .int .i64 t259, .int .i64 (wrap64 (t259 + 1))] ?_; (with_reducible refine (api_File_109.calls (fun k_ => some k_ = (.slice (some ⟨go86, 0, none⟩) x252000_22.length co86 : Value).ownBlock) _ _ _ _ _ w _ ?side1 ?side2 A100.out).mono ?_); (case side1 => exact hb3_ HB GE251.out GE252.out GE253.out); (case side2 => exact Kd.R_tight rfl HO_252000.out); rintro e w106 ⟨v274, rfl, ho0, hb, hkp⟩; refine ⟨_, rfl, ?_⟩; replace BK251 := kp_ BK251 hkp HO_252000; replace BK252 := kp_ BK252 hkp HO_252000; replace BK253 := kp_ BK253 hkp HO_252000; have HO275 := rt_ ho0; replace HB := a_ (hb); clear HO_252000; (try clear hb); (try clear hkp); (try clear ho0); obtain ⟨Ao107, co107, eo107⟩ := Kd.R_slice HO275.out; subst eo107; obtain ⟨hcz108_0, hcz108_1, hcz108_2, hfz108_0, hfz108_1, hfz108_2⟩ := c3_ BK251; obtain ⟨hcz109_0, hcz109_1, hcz109_2, hfz109_0, hfz109_1, hfz109_2⟩ := c3_ BK253))
      refine bodyPost_ret (results_ct rfl _ _ gb253 24 #[.slice Ao107 t273.length co107, .bool false, .int .i64 x252002_75] (0, 0) _ rfl (bp_1 BK253 NB253_251) Try.underlying24 rfl (by kernel_rfl)) rfl ?_
      exact ⟨_, fz_, by refine rq_ ?_; exact rf2_ HO275 BK251 BK253, bl_3 HB GE251 GE252 GE253⟩
     rw [if_neg c99] at H
     obtain ⟨c99b0, c99b1⟩ := bn_ c99
     by_cases c110 : a1_0 = 3
     rotate_left
     ·rw [if_neg c110] at H
      obtain ⟨c110b0, c110b1⟩ := bn_ c110
      obtain ⟨rfl, rfl, rfl, rfl⟩ := so4_ H
      have := NB251_252.out
      have := NB252_251.out
      have := NB251_253.out
      have := NB253_251.out
      obtain ⟨hcz175_0, hcz175_1, hcz175_2, hfz175_0, hfz175_1, hfz175_2⟩ := c3_ BK251
      have p86 : 0 ≤ (t259 : Int) := od_
      have q86 : (t259 : Int) < ((x252000_22.length : Int) : Int) := od_
      obtain ⟨go86, co86, eo86, gb86, gl86, cl86, HG86⟩ := Kd.R_form HO_252000.out (by omega)
      (first | cases eo86 | (injection eo86 with ea_ en_ ec_; (first | subst ea_ | (injection ea_ with ea_; subst ea_)); subst ec_; clear en_))
      have GB86 := a_ gb86
      have GG86 := a_ HG86
      clear gb86 gl86 HG86
      obtain ⟨ce86, hcl86, hM86, hcc86, hfr86⟩ := Kd.R_elem HO_252000.out z71 (t259 : Int) p86 q86
      obtain rfl := k71_openM hM86
      have hx86_0 : wc.cell? ⟨go86, (t259 : Int).toNat * 3, none⟩ = some (.string ((rd_T71 x252000_22 t259).f0)) := hcc86 0 _ rfl
      have hx86_1 : wc.cell? ⟨go86, (t259 : Int).toNat * 3 + 1, none⟩ = some (.string ((rd_T71 x252000_22 t259).f1)) := hcc86 1 _ rfl
      have hx86_2 : wc.cell? ⟨go86, (t259 : Int).toNat * 3 + 2, none⟩ = some (.int .i64 ((rd_T71 x252000_22 t259).f2)) := hcc86 2 _ rfl
      have hf86_0 : wc.frozen? ⟨go86, (t259 : Int).toNat * 3, none⟩ = false := hfr86 0
      have hf86_1 : wc.frozen? ⟨go86, (t259 : Int).toNat * 3 + 1, none⟩ = false := hfr86 1
      have hf86_2 : wc.frozen? ⟨go86, (t259 : Int).toNat * 3 + 2, none⟩ = false := hfr86 2
      clear hcl86 hcc86 hfr86 hM86
      replace p86 := eq_true p86
      replace q86 := eq_true q86
      have := NB252_253.out
      have := NB253_252.out
      obtain ⟨hcz177_0, hcz177_1, hcz177_2, hcz177_3, hcz177_4, hfz177_0, hfz177_1, hfz177_2, hfz177_3, hfz177_4⟩ := c5_ BK252
      obtain ⟨hcz178_0, hcz178_1, hcz178_2, hfz178_0, hfz178_1, hfz178_2⟩ := c3_ BK253
      go_wp2
      refine bodyPost_ret (results_ct rfl _ _ gb253 24 #[.slice (some ⟨go86, 0, none⟩) x252000_22.length co86, .bool false, .int .i64 x252002_75] (0, 0) _ rfl (bp_0 BK253) Try.underlying24 rfl (by kernel_rfl)) rfl ?_
      exact ⟨_, fz_, by refine rq_ ?_; exact rf1_ HO_252000 BK253, bl_3 HB GE251 GE252 GE253⟩
     rw [if_pos c110] at H
     obtain ⟨c110b0, c110b1⟩ := be_ c110
     clear c110
     obtain ⟨t278, A111, H⟩ := ob_ H
     try dsimp only at H
     obtain ⟨⟨t281, t282⟩, A112, H⟩ := ob_ H
     try dsimp only at H
     by_cases c113 : t282 = true
     rotate_left
     ·replace c113 := Bool.eq_false_iff.mpr c113
      subst c113
      have H1 : ((api_File_108.f t278 t281 (([(⟨a1_2, (rd_T71 x252000_22 t259).f1, (rd_T71 x252000_22 t259).f2⟩ : S71)] : List (S71)))).bind fun t287 => (some (t287, false, x252002_75, 0))) = some (r1, r2, r3, r4) := by rw [if_neg (show ¬ (false = true) by decide)] at H; exact H
      clear H
      have H := H1
      clear H1
      obtain ⟨y284, hy284⟩ : ∃ y_ : List (S71), y_ = (([(⟨a1_2, (rd_T71 x252000_22 t259).f1, (rd_T71 x252000_22 t259).f2⟩ : S71)] : List (S71))) := ⟨_, rfl⟩
      replace H : ((api_File_108.f t278 t281 y284).bind fun t287 => (some (t287, false, x252002_75, 0))) = some (r1, r2, r3, r4) := by first | (rw [hy284]; with_reducible exact H) | (have H2_ := (Option.bind_some _ _).symm.trans H; rw [hy284]; with_reducible exact H2_) | (have H2_ := (Option.bind_some _ _).symm.trans H; with_reducible exact H2_) | with_reducible exact H | (rw [hy284]; exact H) | exact H
      have Ny284 := a_ hy284
      clear hy284
      obtain ⟨t287, A143, H⟩ := ob_ H
      try dsimp only at H
      obtain ⟨rfl, rfl, rfl, rfl⟩ := so4_ H
      have := NB251_252.out
      have := NB252_251.out
      have := NB251_253.out
      have := NB253_251.out
      obtain ⟨hcz146_0, hcz146_1, hcz146_2, hfz146_0, hfz146_1, hfz146_2⟩ := c3_ BK251
      have p86 : 0 ≤ (t259 : Int) := od_
      have q86 : (t259 : Int) < ((x252000_22.length : Int) : Int) := od_
      obtain ⟨go86, co86, eo86, gb86, gl86, cl86, HG86⟩ := Kd.R_form HO_252000.out (by omega)
      (first | cases eo86 | (injection eo86 with ea_ en_ ec_; (first | subst ea_ | (injection ea_ with ea_; subst ea_)); subst ec_; clear en_))
      have GB86 := a_ gb86
      have GG86 := a_ HG86
      clear gb86 gl86 HG86
      obtain ⟨ce86, hcl86, hM86, hcc86, hfr86⟩ := Kd.R_elem HO_252000.out z71 (t259 : Int) p86 q86
      obtain rfl := k71_openM hM86
      have hx86_0 : wc.cell? ⟨go86, (t259 : Int).toNat * 3, none⟩ = some (.string ((rd_T71 x252000_22 t259).f0)) := hcc86 0 _ rfl
      have hx86_1 : wc.cell? ⟨go86, (t259 : Int).toNat * 3 + 1, none⟩ = some (.string ((rd_T71 x252000_22 t259).f1)) := hcc86 1 _ rfl
      have hx86_2 : wc.cell? ⟨go86, (t259 : Int).toNat * 3 + 2, none⟩ = some (.int .i64 ((rd_T71 x252000_22 t259).f2)) := hcc86 2 _ rfl
      have hf86_0 : wc.frozen? ⟨go86, (t259 : Int).toNat * 3, none⟩ = false := hfr86 0
      have hf86_1 : wc.frozen? ⟨go86, (t259 : Int).toNat * 3 + 1, none⟩ = false := hfr86 1
      have hf86_2 : wc.frozen? ⟨go86, (t259 : Int).toNat * 3 + 2, none⟩ = false := hfr86 2
      clear hcl86 hcc86 hfr86 hM86
      replace p86 := eq_true p86
      replace q86 := eq_true q86
      have := NB252_253.out
      have := NB253_252.out
      obtain ⟨hcz148_0, hcz148_1, hcz148_2, hcz148_3, hcz148_4, hfz148_0, hfz148_1, hfz148_2, hfz148_3, hfz148_4⟩ := c5_ BK252
      have p276 : 0 ≤ (t259 : Int) := od_
      have q276 : t259 < (x252000_22.length : Int) := od_
      obtain ⟨ad276, e276, hx276_0, hx276_1, hx276_2⟩ := at_T71 (Kd.R_reads' HO_252000.out).2.2 t259 p276 q276
      obtain rfl : (⟨go86, 0, none⟩ : Addr) = ad276 := (by injection e276)
      (first | simp only [add_plain] at hx276_0 | simp only [add_at] at hx276_0 | simp only [Addr.add, Nat.zero_add] at hx276_0 | skip)
      (first | simp only [add_plain] at hx276_1 | simp only [add_at] at hx276_1 | simp only [Addr.add, Nat.zero_add] at hx276_1 | skip)
      (first | simp only [add_plain] at hx276_2 | simp only [add_at] at hx276_2 | simp only [Addr.add, Nat.zero_add] at hx276_2 | skip)
      replace p276 := eq_true p276
      replace q276 := eq_true q276
      go_wp2_with (first | ((with_reducible refine gd_ 11 ?_); refine bz_ 11 #[.string (⟨#[]⟩ : ByteArray), .string (⟨#[]⟩ : ByteArray), .int .i64 0] 71 ?_; intro gb277 hg w149 BK277 hb; replace HO_252000 := a_ (Kd.R_below (Kd.R_elderB (by refine rq_ ?_; exact HO_252000.out) gb277 (Nat.le_of_eq hg.symm)) hb); have GE277 := a_ (bs_3 hg HB GE251 GE252 GE253); replace HB := hB_ (bl_3 HB GE251 GE252 GE253) hb; have NB251_277 := nB_ hg BK251; have NB277_251 := nC_ hg BK251; replace BK251 := bB_ BK251 hb; have NB252_277 := nB_ hg BK252; have NB277_252 := nC_ hg BK252; replace BK252 := bB_ BK252 hb; have NB253_277 := nB_ hg BK253; have NB277_253 := nC_ hg BK253; replace BK253 := bB_ BK253 hb; clear hb hg; have := NB277_251.out; have := NB251_277.out; have := NB277_252.out; have := NB252_277.out; have := NB277_253.out; have := NB253_277.out; obtain ⟨hcz153_0, hcz153_1, hcz153_2, hfz153_0, hfz153_1, hfz153_2⟩ := c3_ BK277) | ((with_reducible refine gate_store (t := 71) (p := 11) rfl ?_); refine store_event (t := 71) (p := 11) (v := ?vo_w154) (w1 := (((w149.setCell ⟨gb277, 0, none⟩ (.string ((rd_T71 x252000_22 t259).f0))).setCell ⟨gb277, 1, none⟩ (.string ((rd_T71 x252000_22 t259).f1))).setCell ⟨gb277, 2, none⟩ (.int .i64 ((rd_T71 x252000_22 t259).f2)))) ?hg ?ho ?hn ?hr ?_; (case ho => rfl); (case hg => rfl); (case hn => rfl); (case hr => first | (go_simp; done) | (go_simp; rfl)); intro w154 hw; have n0_ : Aside0 (Kd.R k71 71 w154 w.heap.size (fun k_ => k_ ≠ gb277) (.slice (some ⟨go86, 0, none⟩) x252000_22.length co86) x252000_22) := ⟨(by rw [hw]; exact (by refine rq_ ?_; exact Kd.R_mono (Kd.R_far (p := ⟨gb277, 2, none⟩) (Kd.R_far (p := ⟨gb277, 1, none⟩) (Kd.R_far (p := ⟨gb277, 0, none⟩) (Kd.R_mono HO_252000.out (fun k_ hk => (⟨hk, hk.2⟩ : _ ∧ k_ ≠ gb277))) (fun _ hk => hk.2) (.string ((rd_T71 x252000_22 t259).f0))) (fun _ hk => hk.2) (.string ((rd_T71 x252000_22 t259).f1))) (fun _ hk => hk.2) (.int .i64 ((rd_T71 x252000_22 t259).f2))) (fun _ hk => hk.1.2)))⟩; have n1_ : Aside0 (w154.heap[gb251]? = some (.cells #[.slice (some ⟨go86, 0, none⟩) x252000_22.length co86, .bool false, .int .i64 x252002_75] 24 (0, 0))) := ⟨(by rw [hw]; exact (bp_1 BK251 NB251_277))⟩; have n2_ : Aside0 (w154.heap[gb252]? = some (.cells #[.int .u8 a1_0, .string a1_1, .string a1_2, .string a1_3, .int .i64 a1_4] 115 (0, 0))) := ⟨(by rw [hw]; exact (bp_1 BK252 NB252_277))⟩; have n3_ : Aside0 (w154.heap[gb253]? = some (.cells #[.slice none 0 0, .bool false, .int .i64 0] 24 (0, 0))) := ⟨(by rw [hw]; exact (bp_1 BK253 NB253_277))⟩; have n4_ : Aside0 (w154.heap[gb277]? = some (.cells #[.string ((rd_T71 x252000_22 t259).f0), .string ((rd_T71 x252000_22 t259).f1), .int .i64 ((rd_T71 x252000_22 t259).f2)] 71 (0, 0))) := ⟨(by rw [hw]; exact (bp_0 BK277))⟩; have n5_ : Aside0 (Below w.heap.size w w154) := ⟨(by rw [hw]; exact (bl_4 HB GE251 GE252 GE253 GE277))⟩; clear hw; clear HO_252000; clear BK251; clear BK252; clear BK253; clear BK277; clear HB; have HO_252000 := n0_; have BK251 := n1_; have BK252 := n2_; have BK253 := n3_; have BK277 := n4_; have HB := n5_; clear n0_ n1_ n2_ n3_ n4_ n5_; obtain ⟨hcz155_0, hcz155_1, hcz155_2, hcz155_3, hcz155_4, hfz155_0, hfz155_1, hfz155_2, hfz155_3, hfz155_4⟩ := c5_ BK252; obtain ⟨hcz156_0, hcz156_1, hcz156_2, hfz156_0, hfz156_1, hfz156_2⟩ := c3_ BK277) | ((with_reducible refine gate_store (t := 9) (p := 132) rfl ?_); refine store_event (t := 9) (p := 132) (v := ?vo_w157) (w1 := (w154.setCell ⟨gb277, 0, none⟩ (.string a1_2))) ?hg ?ho ?hn ?hr ?_; (case ho => rfl); (case hg => rfl); (case hn => rfl); (case hr => first | (go_simp; done) | (go_simp; rfl)); intro w157 hw; have n0_ : Aside0 (Kd.R k71 71 w157 w.heap.size (fun k_ => k_ ≠ gb277) (.slice (some ⟨go86, 0, none⟩) x252000_22.length co86) x252000_22) := ⟨(by rw [hw]; exact (by refine rq_ ?_; exact Kd.R_mono (Kd.R_far (p := ⟨gb277, 0, none⟩) (Kd.R_mono HO_252000.out (fun k_ hk => (⟨hk, hk⟩ : _ ∧ k_ ≠ gb277))) (fun _ hk => hk.2) (.string a1_2)) (fun _ hk => hk.1)))⟩; have n1_ : Aside0 (w157.heap[gb251]? = some (.cells #[.slice (some ⟨go86, 0, none⟩) x252000_22.length co86, .bool false, .int .i64 x252002_75] 24 (0, 0))) := ⟨(by rw [hw]; exact (bp_1 BK251 NB251_277))⟩; have n2_ : Aside0 (w157.heap[gb252]? = some (.cells #[.int .u8 a1_0, .string a1_1, .string a1_2, .string a1_3, .int .i64 a1_4] 115 (0, 0))) := ⟨(by rw [hw]; exact (bp_1 BK252 NB252_277))⟩; have n3_ : Aside0 (w157.heap[gb253]? = some (.cells #[.slice none 0 0, .bool false, .int .i64 0] 24 (0, 0))) := ⟨(by rw [hw]; exact (bp_1 BK253 NB253_277))⟩; have n4_ : Aside0 (w157.heap[gb277]? = some (.cells #[.string a1_2, .string ((rd_T71 x252000_22 t259).f1), .int .i64 ((rd_T71 x252000_22 t259).f2)] 71 (0, 0))) := ⟨(by rw [hw]; exact (bp_0 BK277))⟩; have n5_ : Aside0 (Below w.heap.size w w157) := ⟨(by rw [hw]; exact (bl_4 HB GE251 GE252 GE253 GE277))⟩; clear hw; clear HO_252000; clear BK251; clear BK252; clear BK253; clear BK277; clear HB; have HO_252000 := n0_; have BK251 := n1_; have BK252 := n2_; have BK253 := n3_; have BK277 := n4_; have HB := n5_; clear n0_ n1_ n2_ n3_ n4_ n5_; obtain ⟨hcz158_0, hcz158_1, hcz158_2, hfz158_0, hfz158_1, hfz158_2⟩ := c3_ BK251) | ((with_reducible refine gk_ 109 ?_); refine gl_ (some 138) Try.func109 #[.slice (some ⟨go86, 0, none⟩) x252000_22.length co86, .int .i64 t259, .int .i64 (wrap64 (t259 + 1))] ?_; (with_reducible refine (api_File_109.calls (fun k_ => some k_ = (.slice (some ⟨go86, 0, none⟩) x252000_22.length co86 : Value).ownBlock) _ _ _ _ _ w _ ?side1 ?side2 A111.out).mono ?_); (case side1 => exact hb4_ HB GE251.out GE252.out GE253.out GE277.out); (case side2 => exact Kd.R_tight rfl HO_252000.out); rintro e w159 ⟨v279, rfl, ho0, hb, hkp⟩; refine ⟨_, rfl, ?_⟩; replace BK251 := kp_ BK251 hkp HO_252000; replace BK252 := kp_ BK252 hkp HO_252000; replace BK253 := kp_ BK253 hkp HO_252000; have HO280 := a_ (Kd.R_mono (ok' := fun k_ => k_ ≠ gb277) ho0 (fun k_ hk_ => Or.elim hk_ (fun hs_ => fun e_ => (Kd.R_away HO_252000.out (fun _ hk => hk)) (by rw [← e_]; exact hs_)) (fun hn_ => (Kd.freshB (g := gb277) (o := .cells #[.string a1_2, .string ((rd_T71 x252000_22 t259).f1), .int .i64 ((rd_T71 x252000_22 t259).f2)] 71 (0, 0)) (bk_ BK277) k_ hn_)))); replace BK277 := a_ (blk_kept (bk_ BK277) hkp (fun hs_ => (fun e_ => (Kd.R_away HO_252000.out (fun _ hk => hk)) e_) hs_)); replace HB := a_ (hb); clear HO_252000; (try clear hb); (try clear hkp); (try clear ho0); obtain ⟨Ao160, co160, eo160⟩ := Kd.R_slice HO280.out; subst eo160; obtain ⟨hcz161_0, hcz161_1, hcz161_2, hfz161_0, hfz161_1, hfz161_2⟩ := c3_ BK251; obtain ⟨hcz162_0, hcz162_1, hcz162_2, hcz162_3, hcz162_4, hfz162_0, hfz162_1, hfz162_2, hfz162_3, hfz162_4⟩ := c5_ BK252) | ((with_reducible refine gk_ 50 ?_); refine gl_ (some 144) Try.func50 #[.agg #[.slice Ao160 t278.length co160, .bool false, .int .i64 x252002_75], .string a1_2] ?_; (with_reducible refine (disk_place.calls _ _ _ _ _ _ _ _ _ _ ?side1 ?side2 A112.out).mono ?_); (case side1 => refine (Kd.R_reads' (e := 71) (base := w.heap.size) (ok := fun k_ => k_ ≠ gb277) (n := t278.length) (c := co160) ?_).2.2; exact (by refine rq_ ?_; exact (rf1_ HO280 BK251))); (case side2 => exact (Kd.R_reads' HO280.out).2.1); rintro e w163 ⟨rfl, hb⟩; refine ⟨_, rfl, ?_⟩; replace HO280 := a_ (Kd.R_below (by refine rq_ ?_; exact (rf1_ HO280 BK251)) hb); replace BK251 := bw_0 #[.slice Ao160 t278.length co160, .bool false, .int .i64 x252002_75] BK251 hb; replace BK252 := bw_1 #[.int .u8 a1_0, .string a1_1, .string a1_2, .string a1_3, .int .i64 a1_4] BK252 NB252_251 hb; replace BK253 := bw_1 #[.slice none 0 0, .bool false, .int .i64 0] BK253 NB253_251 hb; replace BK277 := bw_1 #[.string a1_2, .string ((rd_T71 x252000_22 t259).f1), .int .i64 ((rd_T71 x252000_22 t259).f2)] BK277 NB277_251 hb; replace HB := hB_ (bl_4 HB GE251 GE252 GE253 GE277) hb; (try clear hb); obtain ⟨hcz164_0, hcz164_1, hcz164_2, hfz164_0, hfz164_1, hfz164_2⟩ := c3_ BK251; obtain ⟨hcz165_0, hcz165_1, hcz165_2, hfz165_0, hfz165_1, hfz165_2⟩ := c3_ BK277) | ((with_reducible refine gd_ 157 ?_); refine Kd.R_lit k71 _ 71 ?hg (N := 157) ?hd (xs := ([(⟨a1_2, (rd_T71 x252000_22 t259).f1, (rd_T71 x252000_22 t259).f2⟩ : S71)] : List (S71))) (inner := [.string a1_2, .string ((rd_T71 x252000_22 t259).f1), .int .i64 ((rd_T71 x252000_22 t259).f2)]) (ok := fun _ => True) (okp := fun _ => True) ?hr ?hp (fun _ hk => hk) trivial (Below.refl _ _) (Nat.le_refl _) (by simp) ?_; (case hd => rfl); (case hg => rfl); (case hr => first | (go_simp; done) | (go_simp; rfl)); (case hp => exact (Reps.c3 (show Kd.M k71 _ _ _ (⟨a1_2, (rd_T71 x252000_22 t259).f1, (rd_T71 x252000_22 t259).f2⟩ : S71) [.string a1_2, .string ((rd_T71 x252000_22 t259).f1), .int .i64 ((rd_T71 x252000_22 t259).f2)] from (k71_mkM _ _ _ (⟨a1_2, (rd_T71 x252000_22 t259).f1, (rd_T71 x252000_22 t259).f2⟩ : S71) )) (Reps.none _ _))); intro v285 w166 ho167 hb hg_ hnew_; clear hg_ hnew_; (first | rw [← Ny284.out] at ho167 | (simp only [Int.reduceToNat] at ho167; rw [← Ny284.out] at ho167)); have HO286 := a_ (Kd.R_lower (Kd.R_newB (Kd.R_new' ho167 (Kd.R_lt (by refine rq_ ?_; exact HO280.out))) (g := gb277) (o := .cells #[.string a1_2, .string ((rd_T71 x252000_22 t259).f1), .int .i64 ((rd_T71 x252000_22 t259).f2)] 71 (0, 0)) (bk_ BK277)) (below_size (bl_4 HB GE251 GE252 GE253 GE277))); replace HO280 := a_ (Kd.R_elder' (by refine rq_ ?_; exact HO280.out) (Kd.R_base ho167) hb); replace BK251 := bB_ BK251 hb; replace BK252 := bB_ BK252 hb; replace BK253 := bB_ BK253 hb; replace BK277 := bB_ BK277 hb; replace HB := hB_ (bl_4 HB GE251 GE252 GE253 GE277) hb; clear hb ho167; obtain ⟨Ao168, co168, eo168⟩ := Kd.R_slice HO286.out; subst eo168) | ((with_reducible refine gk_ 108 ?_); refine gl_ (some 158) Try.func108 #[.slice Ao160 t278.length co160, .int .i64 t281, .slice Ao168 y284.length co168] ?_; (with_reducible refine (api_File_108.calls (fun k_ => some k_ = (.slice Ao160 t278.length co160 : Value).ownBlock) _ _ _ (fun k_ => some k_ = (.slice Ao168 y284.length co168 : Value).ownBlock) _ _ _ w _ ?side1 ?side2 ?side3 ?side4 ?side5 A143.out).mono ?_); (case side1 => exact hb4_ HB GE251.out GE252.out GE253.out GE277.out); (case side2 => exact Kd.R_tight rfl HO280.out); (case side3 => exact fun k_ e_ => (HO280.out.1 k_ e_.symm).2); (case side4 => exact Kd.R_tight rfl HO286.out); (case side5 => exact fun k_ e_ => (HO286.out.1 k_ e_.symm).1.2); rintro e w169 ⟨v288, rfl, ho0, hb, hkp⟩; refine ⟨_, rfl, ?_⟩; replace BK251 := a_ (blk_kept (bk_ BK251) hkp (fun hs_ => Or.elim hs_ (fun e_ => (fun e_ => (Kd.R_ne HO280.out BK251.out (by decide)) e_) e_) (fun e_ => (fun e_ => (Kd.R_ne HO286.out BK251.out (by decide)) e_) e_))); replace BK252 := a_ (blk_kept (bk_ BK252) hkp (fun hs_ => Or.elim hs_ (fun e_ => (fun e_ => (Kd.R_ne HO280.out BK252.out (by decide)) e_) e_) (fun e_ => (fun e_ => (Kd.R_ne HO286.out BK252.out (by decide)) e_) e_))); replace BK253 := a_ (blk_kept (bk_ BK253) hkp (fun hs_ => Or.elim hs_ (fun e_ => (fun e_ => (Kd.R_ne HO280.out BK253.out (by decide)) e_) e_) (fun e_ => (fun e_ => (Kd.R_ne HO286.out BK253.out (by decide)) e_) e_))); have HO289 := a_ (Kd.R_mono (ok' := fun k_ => k_ ≠ gb277) ho0 (fun k_ hk_ => Or.elim hk_ (fun hs_ => Or.elim hs_ (fun hs_ => fun e_ => (Kd.R_away HO280.out (fun _ hk => hk.1)) (by rw [← e_]; exact hs_)) (fun hs_ => fun e_ => (Kd.R_away HO286.out (fun _ hk => hk.2)) (by rw [← e_]; exact hs_))) (fun hn_ => (Kd.freshB (g := gb277) (o := .cells #[.string a1_2, .string ((rd_T71 x252000_22 t259).f1), .int .i64 ((rd_T71 x252000_22 t259).f2)] 71 (0, 0)) (bk_ BK277) k_ hn_)))); replace BK277 := a_ (blk_kept (bk_ BK277) hkp (fun hs_ => Or.elim hs_ (fun e_ => (fun e_ => (Kd.R_away HO280.out (fun _ hk => hk.1)) e_) e_) (fun e_ => (fun e_ => (Kd.R_away HO286.out (fun _ hk => hk.2)) e_) e_))); replace HB := a_ (hb); clear HO280; clear HO286; (try clear hb); (try clear hkp); (try clear ho0); obtain ⟨Ao170, co170, eo170⟩ := Kd.R_slice HO289.out; subst eo170; obtain ⟨hcz171_0, hcz171_1, hcz171_2, hfz171_0, hfz171_1, hfz171_2⟩ := c3_ BK251; obtain ⟨hcz172_0, hcz172_1, hcz172_2, hfz172_0, hfz172_1, hfz172_2⟩ := c3_ BK253))
      refine bodyPost_ret (results_ct rfl _ _ gb253 24 #[.slice Ao170 t287.length co170, .bool false, .int .i64 x252002_75] (0, 0) _ rfl (bp_1 BK253 NB253_251) Try.underlying24 rfl (by kernel_rfl)) rfl ?_
      exact ⟨_, fz_, by refine rq_ ?_; exact rf2_ HO289 BK251 BK253, bl_4 HB GE251 GE252 GE253 GE277⟩
     subst c113
     have H1 : (if 0 ≤ t281 then (if t281 < (t278.length : Int) then (some ((t278.set (t281 : Int).toNat (⟨a1_2, (rd_T71 x252000_22 t259).f1, (rd_T71 x252000_22 t259).f2⟩ : S71)), false, x252002_75, 0)) else (none)) else (none)) = some (r1, r2, r3, r4) := by rw [if_pos rfl] at H; exact H
     clear H
     have H := H1
     clear H1
     replace H := ip_ H
     obtain ⟨-, c114b0, H⟩ := H
     replace H := ip_ H
     obtain ⟨-, c115b0, H⟩ := H
     obtain ⟨y283, hy283⟩ : ∃ y_ : List (S71), y_ = (t278.set (t281 : Int).toNat (⟨a1_2, (rd_T71 x252000_22 t259).f1, (rd_T71 x252000_22 t259).f2⟩ : S71)) := ⟨_, rfl⟩
     replace H : (some (y283, false, x252002_75, 0)) = some (r1, r2, r3, r4) := by first | (rw [hy283]; with_reducible exact H) | (have H2_ := (Option.bind_some _ _).symm.trans H; rw [hy283]; with_reducible exact H2_) | (have H2_ := (Option.bind_some _ _).symm.trans H; with_reducible exact H2_) | with_reducible exact H | (rw [hy283]; exact H) | exact H
     have Ny283 := a_ hy283
     clear hy283
     obtain ⟨rfl, rfl, rfl, rfl⟩ := so4_ H
     have := NB251_252.out
     have := NB252_251.out
     have := NB251_253.out
     have := NB253_251.out
     obtain ⟨hcz119_0, hcz119_1, hcz119_2, hfz119_0, hfz119_1, hfz119_2⟩ := c3_ BK251
     have p86 : 0 ≤ (t259 : Int) := od_
     have q86 : (t259 : Int) < ((x252000_22.length : Int) : Int) := od_
     obtain ⟨go86, co86, eo86, gb86, gl86, cl86, HG86⟩ := Kd.R_form HO_252000.out (by omega)
     (first | cases eo86 | (injection eo86 with ea_ en_ ec_; (first | subst ea_ | (injection ea_ with ea_; subst ea_)); subst ec_; clear en_))
     have GB86 := a_ gb86
     have GG86 := a_ HG86
     clear gb86 gl86 HG86
     obtain ⟨ce86, hcl86, hM86, hcc86, hfr86⟩ := Kd.R_elem HO_252000.out z71 (t259 : Int) p86 q86
     obtain rfl := k71_openM hM86
     have hx86_0 : wc.cell? ⟨go86, (t259 : Int).toNat * 3, none⟩ = some (.string ((rd_T71 x252000_22 t259).f0)) := hcc86 0 _ rfl
     have hx86_1 : wc.cell? ⟨go86, (t259 : Int).toNat * 3 + 1, none⟩ = some (.string ((rd_T71 x252000_22 t259).f1)) := hcc86 1 _ rfl
     have hx86_2 : wc.cell? ⟨go86, (t259 : Int).toNat * 3 + 2, none⟩ = some (.int .i64 ((rd_T71 x252000_22 t259).f2)) := hcc86 2 _ rfl
     have hf86_0 : wc.frozen? ⟨go86, (t259 : Int).toNat * 3, none⟩ = false := hfr86 0
     have hf86_1 : wc.frozen? ⟨go86, (t259 : Int).toNat * 3 + 1, none⟩ = false := hfr86 1
     have hf86_2 : wc.frozen? ⟨go86, (t259 : Int).toNat * 3 + 2, none⟩ = false := hfr86 2
     clear hcl86 hcc86 hfr86 hM86
     replace p86 := eq_true p86
     replace q86 := eq_true q86
     have := NB252_253.out
     have := NB253_252.out
     obtain ⟨hcz121_0, hcz121_1, hcz121_2, hcz121_3, hcz121_4, hfz121_0, hfz121_1, hfz121_2, hfz121_3, hfz121_4⟩ := c5_ BK252
     have p276 : 0 ≤ (t259 : Int) := od_
     have q276 : t259 < (x252000_22.length : Int) := od_
     obtain ⟨ad276, e276, hx276_0, hx276_1, hx276_2⟩ := at_T71 (Kd.R_reads' HO_252000.out).2.2 t259 p276 q276
     obtain rfl : (⟨go86, 0, none⟩ : Addr) = ad276 := (by injection e276)
     (first | simp only [add_plain] at hx276_0 | simp only [add_at] at hx276_0 | simp only [Addr.add, Nat.zero_add] at hx276_0 | skip)
     (first | simp only [add_plain] at hx276_1 | simp only [add_at] at hx276_1 | simp only [Addr.add, Nat.zero_add] at hx276_1 | skip)
     (first | simp only [add_plain] at hx276_2 | simp only [add_at] at hx276_2 | simp only [Addr.add, Nat.zero_add] at hx276_2 | skip)
     replace p276 := eq_true p276
     replace q276 := eq_true q276
     go_wp2_with (first | ((with_reducible refine gd_ 11 ?_); refine bz_ 11 #[.string (⟨#[]⟩ : ByteArray), .string (⟨#[]⟩ : ByteArray), .int .i64 0] 71 ?_; intro gb277 hg w122 BK277 hb; replace HO_252000 := a_ (Kd.R_below (Kd.R_elderB (by refine rq_ ?_; exact HO_252000.out) gb277 (Nat.le_of_eq hg.symm)) hb); have GE277 := a_ (bs_3 hg HB GE251 GE252 GE253); replace HB := hB_ (bl_3 HB GE251 GE252 GE253) hb; have NB251_277 := nB_ hg BK251; have NB277_251 := nC_ hg BK251; replace BK251 := bB_ BK251 hb; have NB252_277 := nB_ hg BK252; have NB277_252 := nC_ hg BK252; replace BK252 := bB_ BK252 hb; have NB253_277 := nB_ hg BK253; have NB277_253 := nC_ hg BK253; replace BK253 := bB_ BK253 hb; clear hb hg; have := NB277_251.out; have := NB251_277.out; have := NB277_252.out; have := NB252_277.out; have := NB277_253.out; have := NB253_277.out; obtain ⟨hcz126_0, hcz126_1, hcz126_2, hfz126_0, hfz126_1, hfz126_2⟩ := c3_ BK277) | ((with_reducible refine gate_store (t := 71) (p := 11) rfl ?_); refine store_event (t := 71) (p := 11) (v := ?vo_w127) (w1 := (((w122.setCell ⟨gb277, 0, none⟩ (.string ((rd_T71 x252000_22 t259).f0))).setCell ⟨gb277, 1, none⟩ (.string ((rd_T71 x252000_22 t259).f1))).setCell ⟨gb277, 2, none⟩ (.int .i64 ((rd_T71 x252000_22 t259).f2)))) ?hg ?ho ?hn ?hr ?_; (case ho => rfl); (case hg => rfl); (case hn => rfl); (case hr => first | (go_simp; done) | (go_simp; rfl)); intro w127 hw; have n0_ : Aside0 (Kd.R k71 71 w127 w.heap.size (fun k_ => k_ ≠ gb277) (.slice (some ⟨go86, 0, none⟩) x252000_22.length co86) x252000_22) := ⟨(by rw [hw]; exact (by refine rq_ ?_; exact Kd.R_mono (Kd.R_far (p := ⟨gb277, 2, none⟩) (Kd.R_far (p := ⟨gb277, 1, none⟩) (Kd.R_far (p := ⟨gb277, 0, none⟩) (Kd.R_mono HO_252000.out (fun k_ hk => (⟨hk, hk.2⟩ : _ ∧ k_ ≠ gb277))) (fun _ hk => hk.2) (.string ((rd_T71 x252000_22 t259).f0))) (fun _ hk => hk.2) (.string ((rd_T71 x252000_22 t259).f1))) (fun _ hk => hk.2) (.int .i64 ((rd_T71 x252000_22 t259).f2))) (fun _ hk => hk.1.2)))⟩; have n1_ : Aside0 (w127.heap[gb251]? = some (.cells #[.slice (some ⟨go86, 0, none⟩) x252000_22.length co86, .bool false, .int .i64 x252002_75] 24 (0, 0))) := ⟨(by rw [hw]; exact (bp_1 BK251 NB251_277))⟩; have n2_ : Aside0 (w127.heap[gb252]? = some (.cells #[.int .u8 a1_0, .string a1_1, .string a1_2, .string a1_3, .int .i64 a1_4] 115 (0, 0))) := ⟨(by rw [hw]; exact (bp_1 BK252 NB252_277))⟩; have n3_ : Aside0 (w127.heap[gb253]? = some (.cells #[.slice none 0 0, .bool false, .int .i64 0] 24 (0, 0))) := ⟨(by rw [hw]; exact (bp_1 BK253 NB253_277))⟩; have n4_ : Aside0 (w127.heap[gb277]? = some (.cells #[.string ((rd_T71 x252000_22 t259).f0), .string ((rd_T71 x252000_22 t259).f1), .int .i64 ((rd_T71 x252000_22 t259).f2)] 71 (0, 0))) := ⟨(by rw [hw]; exact (bp_0 BK277))⟩; have n5_ : Aside0 (Below w.heap.size w w127) := ⟨(by rw [hw]; exact (bl_4 HB GE251 GE252 GE253 GE277))⟩; clear hw; clear HO_252000; clear BK251; clear BK252; clear BK253; clear BK277; clear HB; have HO_252000 := n0_; have BK251 := n1_; have BK252 := n2_; have BK253 := n3_; have BK277 := n4_; have HB := n5_; clear n0_ n1_ n2_ n3_ n4_ n5_; obtain ⟨hcz128_0, hcz128_1, hcz128_2, hcz128_3, hcz128_4, hfz128_0, hfz128_1, hfz128_2, hfz128_3, hfz128_4⟩ := c5_ BK252; obtain ⟨hcz129_0, hcz129_1, hcz129_2, hfz129_0, hfz129_1, hfz129_2⟩ := c3_ BK277) | ((with_reducible refine gate_store (t := 9) (p := 132) rfl ?_); refine store_event (t := 9) (p := 132) (v := ?vo_w130) (w1 := (w127.setCell ⟨gb277, 0, none⟩ (.string a1_2))) ?hg ?ho ?hn ?hr ?_; (case ho => rfl); (case hg => rfl); (case hn => rfl); (case hr => first | (go_simp; done) | (go_simp; rfl)); intro w130 hw; have n0_ : Aside0 (Kd.R k71 71 w130 w.heap.size (fun k_ => k_ ≠ gb277) (.slice (some ⟨go86, 0, none⟩) x252000_22.length co86) x252000_22) := ⟨(by rw [hw]; exact (by refine rq_ ?_; exact Kd.R_mono (Kd.R_far (p := ⟨gb277, 0, none⟩) (Kd.R_mono HO_252000.out (fun k_ hk => (⟨hk, hk⟩ : _ ∧ k_ ≠ gb277))) (fun _ hk => hk.2) (.string a1_2)) (fun _ hk => hk.1)))⟩; have n1_ : Aside0 (w130.heap[gb251]? = some (.cells #[.slice (some ⟨go86, 0, none⟩) x252000_22.length co86, .bool false, .int .i64 x252002_75] 24 (0, 0))) := ⟨(by rw [hw]; exact (bp_1 BK251 NB251_277))⟩; have n2_ : Aside0 (w130.heap[gb252]? = some (.cells #[.int .u8 a1_0, .string a1_1, .string a1_2, .string a1_3, .int .i64 a1_4] 115 (0, 0))) := ⟨(by rw [hw]; exact (bp_1 BK252 NB252_277))⟩; have n3_ : Aside0 (w130.heap[gb253]? = some (.cells #[.slice none 0 0, .bool false, .int .i64 0] 24 (0, 0))) := ⟨(by rw [hw]; exact (bp_1 BK253 NB253_277))⟩; have n4_ : Aside0 (w130.heap[gb277]? = some (.cells #[.string a1_2, .string ((rd_T71 x252000_22 t259).f1), .int .i64 ((rd_T71 x252000_22 t259).f2)] 71 (0, 0))) := ⟨(by rw [hw]; exact (bp_0 BK277))⟩; have n5_ : Aside0 (Below w.heap.size w w130) := ⟨(by rw [hw]; exact (bl_4 HB GE251 GE252 GE253 GE277))⟩; clear hw; clear HO_252000; clear BK251; clear BK252; clear BK253; clear BK277; clear HB; have HO_252000 := n0_; have BK251 := n1_; have BK252 := n2_; have BK253 := n3_; have BK277 := n4_; have HB := n5_; clear n0_ n1_ n2_ n3_ n4_ n5_; obtain ⟨hcz131_0, hcz131_1, hcz131_2, hfz131_0, hfz131_1, hfz131_2⟩ := c3_ BK251) | ((with_reducible refine gk_ 109 ?_); refine gl_ (some 138) Try.func109 #[.slice (some ⟨go86, 0, none⟩) x252000_22.length co86, .int .i64 t259, .int .i64 (wrap64 (t259 + 1))] ?_; (with_reducible refine (api_File_109.calls (fun k_ => some k_ = (.slice (some ⟨go86, 0, none⟩) x252000_22.length co86 : Value).ownBlock) _ _ _ _ _ w _ ?side1 ?side2 A111.out).mono ?_); (case side1 => exact hb4_ HB GE251.out GE252.out GE253.out GE277.out); (case side2 => exact Kd.R_tight rfl HO_252000.out); rintro e w132 ⟨v279, rfl, ho0, hb, hkp⟩; refine ⟨_, rfl, ?_⟩; replace BK251 := kp_ BK251 hkp HO_252000; replace BK252 := kp_ BK252 hkp HO_252000; replace BK253 := kp_ BK253 hkp HO_252000; have HO280 := a_ (Kd.R_mono (ok' := fun k_ => k_ ≠ gb277) ho0 (fun k_ hk_ => Or.elim hk_ (fun hs_ => fun e_ => (Kd.R_away HO_252000.out (fun _ hk => hk)) (by rw [← e_]; exact hs_)) (fun hn_ => (Kd.freshB (g := gb277) (o := .cells #[.string a1_2, .string ((rd_T71 x252000_22 t259).f1), .int .i64 ((rd_T71 x252000_22 t259).f2)] 71 (0, 0)) (bk_ BK277) k_ hn_)))); replace BK277 := a_ (blk_kept (bk_ BK277) hkp (fun hs_ => (fun e_ => (Kd.R_away HO_252000.out (fun _ hk => hk)) e_) hs_)); replace HB := a_ (hb); clear HO_252000; (try clear hb); (try clear hkp); (try clear ho0); obtain ⟨Ao133, co133, eo133⟩ := Kd.R_slice HO280.out; subst eo133; obtain ⟨hcz134_0, hcz134_1, hcz134_2, hfz134_0, hfz134_1, hfz134_2⟩ := c3_ BK251; obtain ⟨hcz135_0, hcz135_1, hcz135_2, hcz135_3, hcz135_4, hfz135_0, hfz135_1, hfz135_2, hfz135_3, hfz135_4⟩ := c5_ BK252) | ((with_reducible refine gk_ 50 ?_); refine gl_ (some 144) Try.func50 #[.agg #[.slice Ao133 t278.length co133, .bool false, .int .i64 x252002_75], .string a1_2] ?_; (with_reducible refine (disk_place.calls _ _ _ _ _ _ _ _ _ _ ?side1 ?side2 A112.out).mono ?_); (case side1 => refine (Kd.R_reads' (e := 71) (base := w.heap.size) (ok := fun k_ => k_ ≠ gb277) (n := t278.length) (c := co133) ?_).2.2; exact (by refine rq_ ?_; exact (rf1_ HO280 BK251))); (case side2 => exact (Kd.R_reads' HO280.out).2.1); rintro e w136 ⟨rfl, hb⟩; refine ⟨_, rfl, ?_⟩; replace HO280 := a_ (Kd.R_below (by refine rq_ ?_; exact (rf1_ HO280 BK251)) hb); replace BK251 := bw_0 #[.slice Ao133 t278.length co133, .bool false, .int .i64 x252002_75] BK251 hb; replace BK252 := bw_1 #[.int .u8 a1_0, .string a1_1, .string a1_2, .string a1_3, .int .i64 a1_4] BK252 NB252_251 hb; replace BK253 := bw_1 #[.slice none 0 0, .bool false, .int .i64 0] BK253 NB253_251 hb; replace BK277 := bw_1 #[.string a1_2, .string ((rd_T71 x252000_22 t259).f1), .int .i64 ((rd_T71 x252000_22 t259).f2)] BK277 NB277_251 hb; replace HB := hB_ (bl_4 HB GE251 GE252 GE253 GE277) hb; (try clear hb); obtain ⟨hcz137_0, hcz137_1, hcz137_2, hfz137_0, hfz137_1, hfz137_2⟩ := c3_ BK251; obtain ⟨hcz138_0, hcz138_1, hcz138_2, hfz138_0, hfz138_1, hfz138_2⟩ := c3_ BK277; have p116 : 0 ≤ (t281 : Int) := od_; have q116 : (t281 : Int) < ((t278.length : Int) : Int) := od_; obtain ⟨go116, co116, eo116, gb116, gl116, cl116, HG116⟩ := Kd.R_form HO280.out (by omega); (first | cases eo116 | (injection eo116 with ea_ en_ ec_; (first | subst ea_ | (injection ea_ with ea_; subst ea_)); subst ec_; clear en_)); have GB116 := a_ gb116; have GG116 := a_ HG116; clear gb116 gl116 HG116; obtain ⟨ce116, hcl116, hM116, hcc116, hfr116⟩ := Kd.R_elem HO280.out z71 (t281 : Int) p116 q116; obtain rfl := k71_openM hM116; have hx116_0 : w136.cell? ⟨go116, (t281 : Int).toNat * 3, none⟩ = some (.string ((rd_T71 t278 t281).f0)) := hcc116 0 _ rfl; have hx116_1 : w136.cell? ⟨go116, (t281 : Int).toNat * 3 + 1, none⟩ = some (.string ((rd_T71 t278 t281).f1)) := hcc116 1 _ rfl; have hx116_2 : w136.cell? ⟨go116, (t281 : Int).toNat * 3 + 2, none⟩ = some (.int .i64 ((rd_T71 t278 t281).f2)) := hcc116 2 _ rfl; have hf116_0 : w136.frozen? ⟨go116, (t281 : Int).toNat * 3, none⟩ = false := hfr116 0; have hf116_1 : w136.frozen? ⟨go116, (t281 : Int).toNat * 3 + 1, none⟩ = false := hfr116 1; have hf116_2 : w136.frozen? ⟨go116, (t281 : Int).toNat * 3 + 2, none⟩ = false := hfr116 2; clear hcl116 hcc116 hfr116 hM116; replace p116 := eq_true p116; replace q116 := eq_true q116; have HX139 := a_ (show Kd.R k71 71 w136 w.heap.size (fun k_ => k_ ≠ gb277) (.slice (some ⟨go116, 0, none⟩) t278.length co133) t278 from (by refine rq_ ?_; exact HO280.out)); obtain ⟨ce139, hcl139, hM139, hcc139, hfr139⟩ := Kd.R_elem HX139.out z71 (t281 : Int) od_ (by have h_ : (t281 : Int) < ((t278.length : Int) : Int) := od_; first | exact h_ | (have e_ := (Kd.R_reads' HO280.out).1; omega) | simpa using h_); obtain rfl := k71_openM hM139; have HP139 := Kd.R_seg HX139.out (t281 : Int) od_ (by have h_ : (t281 : Int) < ((t278.length : Int) : Int) := od_; first | exact h_ | (have e_ := (Kd.R_reads' HO280.out).1; omega) | simpa using h_) (seg := [.string a1_2, .string ((rd_T71 x252000_22 t259).f1), .int .i64 ((rd_T71 x252000_22 t259).f2)]) (j := 0) hcl139 hcc139 (show 3 ≤ 3 from by decide) (x' := (⟨a1_2, (rd_T71 x252000_22 t259).f1, (rd_T71 x252000_22 t259).f2⟩ : S71)) (k71_mkM _ _ _ (⟨a1_2, (rd_T71 x252000_22 t259).f1, (rd_T71 x252000_22 t259).f2⟩ : S71) ) (fun _ hk => hk); have hx139_0 := hcc139 0 _ rfl; (try simp only [show (k71).sz = 3 from rfl, Nat.mul_one, Nat.add_zero] at hx139_0); have hf139_0 := hfr139 0; (try simp only [show (k71).sz = 3 from rfl, Nat.mul_one, Nat.add_zero] at hf139_0); have hx139_1 := hcc139 1 _ rfl; (try simp only [show (k71).sz = 3 from rfl, Nat.mul_one, Nat.add_zero] at hx139_1); have hf139_1 := hfr139 1; (try simp only [show (k71).sz = 3 from rfl, Nat.mul_one, Nat.add_zero] at hf139_1); have hx139_2 := hcc139 2 _ rfl; (try simp only [show (k71).sz = 3 from rfl, Nat.mul_one, Nat.add_zero] at hx139_2); have hf139_2 := hfr139 2; (try simp only [show (k71).sz = 3 from rfl, Nat.mul_one, Nat.add_zero] at hf139_2); clear hcl139 hcc139 hfr139 hM139) | ((with_reducible refine gate_store (t := 71) (p := 152) rfl ?_); refine store_event (t := 71) (p := 152) (v := ?vo_w140) (w1 := (((w136.setCell ⟨go116, (t281 : Int).toNat * 3, none⟩ (.string a1_2)).setCell ⟨go116, (t281 : Int).toNat * 3 + 1, none⟩ (.string ((rd_T71 x252000_22 t259).f1))).setCell ⟨go116, (t281 : Int).toNat * 3 + 2, none⟩ (.int .i64 ((rd_T71 x252000_22 t259).f2)))) ?hg ?ho ?hn ?hr ?_; (case ho => rfl); (case hg => rfl); (case hn => rfl); (case hr => first | (go_simp; done) | (go_simp; rfl)); intro w140 hw; have hg : w136.grownBy w140 (some go116) := (by rw [hw]; exact HP139.2); have hp_ : Kd.R k71 71 w140 w.heap.size (fun k_ => k_ ≠ gb277) (.slice (some ⟨go116, 0, none⟩) t278.length co133) y283 := (by rw [hw, Ny283.out]; exact HP139.1); clear HP139; replace BK251 := a_ (blk_grown (g := gb251) (o := .cells #[.slice (some ⟨go116, 0, none⟩) t278.length co133, .bool false, .int .i64 x252002_75] 24 (0, 0)) (bk_ BK251) hg (Kd.R_ne HO280.out BK251.out (by decide))); replace BK252 := a_ (blk_grown (g := gb252) (o := .cells #[.int .u8 a1_0, .string a1_1, .string a1_2, .string a1_3, .int .i64 a1_4] 115 (0, 0)) (bk_ BK252) hg (Kd.R_ne HO280.out BK252.out (by decide))); replace BK253 := a_ (blk_grown (g := gb253) (o := .cells #[.slice none 0 0, .bool false, .int .i64 0] 24 (0, 0)) (bk_ BK253) hg (Kd.R_ne HO280.out BK253.out (by decide))); replace BK277 := a_ (blk_grown (g := gb277) (o := .cells #[.string a1_2, .string ((rd_T71 x252000_22 t259).f1), .int .i64 ((rd_T71 x252000_22 t259).f2)] 71 (0, 0)) (bk_ BK277) hg (Kd.R_away HO280.out (fun _ hk => hk))); replace HO280 := a_ (hp_); replace HB := a_ ((by rw [hw]; exact below_set (below_set (below_set (HB.out) GB116.out) GB116.out) GB116.out : Below w.heap.size w w140)); clear hg hw hp_; obtain ⟨hcz141_0, hcz141_1, hcz141_2, hfz141_0, hfz141_1, hfz141_2⟩ := c3_ BK251; obtain ⟨hcz142_0, hcz142_1, hcz142_2, hfz142_0, hfz142_1, hfz142_2⟩ := c3_ BK253))
     refine bodyPost_ret (results_ct rfl _ _ gb253 24 #[.slice (some ⟨go116, 0, none⟩) t278.length co133, .bool false, .int .i64 x252002_75] (0, 0) _ rfl (bp_0 BK253) Try.underlying24 rfl (by kernel_rfl)) rfl ?_
     exact ⟨_, fz_, by refine rq_ ?_; exact rf1_ HO280 BK253, bl_4 HB GE251 GE252 GE253 GE277⟩
end Go.Proofs.Ytpigjmjbfpipnaa.PF
