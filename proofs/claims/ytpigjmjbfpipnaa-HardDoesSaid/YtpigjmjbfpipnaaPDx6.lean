-- By a program of this session.
import Derived.Test.YtpigjmjbfpipnaaPDx0
import Derived.Test.YtpigjmjbfpipnaaPDx3
import Derived.Test.YtpigjmjbfpipnaaPDx4
import Derived.Test.YtpigjmjbfpipnaaPDx5
namespace Go.Proofs.Ytpigjmjbfpipnaa.PD
open Go.RowKit YtpigjmjbfpipnaaW.PrintWords YtpigjmjbfpipnaaW.PrintLast YtpigjmjbfpipnaaW.PrintMore Sh Ytpigjmjbfpipnaa.Op
attribute [local go_sem] max2_int min2_int max_two min_two max_three min_three max_four min_four
set_option linter.unusedVariables false
set_option maxHeartbeats 80000000
set_option maxRecDepth 100000
set_option linter.unusedSimpArgs false

def hard_file.f (k : Nat) (a0_0 : Int) (a0_1 : Int) : Option (ByteArray) := (pack_Number.f k a0_0).bind fun t156 => ((pack_Number.f k (IntKind.u64.wrap (a0_1))).bind fun t157 => (if t156.size + t157.size ≤ 9223372036854775807 then ((pack_Frame.f k (t156 ++ t157)).bind fun bt158 => (some bt158.1)) else (none)))
theorem hard_file.mono : ∀ a0 a1 k, LeO (hard_file.f k a0 a1) (hard_file.f (k + 1) a0 a1) := by
 intro a0 a1 k
 unfold hard_file.f
 repeat' with_reducible first | apply pack_Frame.mono | apply pack_Number.mono | apply LeO.refl | apply LeO.none | apply LeO.ite | refine LeO.bind ?_ (fun _ => ?_)
def hard_file.T1 : Bool × List (List Nat × List Nat) := (true, [([], []), ([0], [0]), ([1], [1]), ([], []), ([3], [3]), ([4], [4]), ([5, 2], [5]), ([2, 6], [2, 6]), ([7, 6], [7]), ([8], [8]), ([9], [9]), ([9], [9]), ([10, 8, 0, 1, 2, 3, 4, 5, 6, 7, 8, 9, 10], [10]), ([11, 12, 0, 1, 2, 3, 4, 5, 6, 7, 8, 9, 10, 11, 12], [11])])
def hard_file.B1 : List Nat := [0, 1, 3, 0, 8, 24, 63, 127, 255, 511, 1023, 1023, 2047, 8191]
theorem hard_file.tab1 : rtab .any (opsOf Try.f40 1) = hard_file.T1 := by kernel_rfl
theorem hard_file.bits1 : waitsOk hard_file.T1.2 hard_file.B1 = true := by kernel_rfl
theorem hard_file.calls (k : Nat) (a0_0 : Int) (a0_1 : Int) (r : ByteArray) (w : World) (h : hard_file.f k a0_0 a0_1 = some r) :
  Calls Try.prog 40 #[.agg #[.int .u64 a0_0, .int .i64 a0_1]] w fun e w' => e = .returned (.string r) ∧ Below w.heap.size w w' := by
 have hu27 := Try.underlying27
 have HB := a_ (Below.refl w.heap.size w)
 have H : ((pack_Number.f k a0_0).bind fun t156 => ((pack_Number.f k (IntKind.u64.wrap (a0_1))).bind fun t157 => (if t156.size + t157.size ≤ 9223372036854775807 then ((pack_Frame.f k (t156 ++ t157)).bind fun bt158 => (some bt158.1)) else (none)))) = some r := h
 clear h
 obtain ⟨t156, A20, H⟩ := Option.bind_eq_some_iff.mp H
 try dsimp only at H
 have A2 := a_ A20
 clear A20
 obtain ⟨t157, A30, H⟩ := Option.bind_eq_some_iff.mp H
 try dsimp only at H
 have A3 := a_ A30
 clear A30
 by_cases c4 : t156.size + t157.size ≤ 9223372036854775807
 rotate_left
 ·rw [if_neg c4] at H
  exact absurd H (by simp)


 rw [if_pos c4] at H
 have c4b0 := eq_true c4
 have c4b1 : decide (t156.size + t157.size ≤ 9223372036854775807) = true := decide_eq_true c4
 try have c4b2 : (9223372036854775807 < t156.size + t157.size) = False := eq_false (Nat.not_lt.2 c4)
 clear c4
 obtain ⟨⟨t158, t159⟩, A50, H⟩ := Option.bind_eq_some_iff.mp H
 try dsimp only at H
 have A5 := a_ A50
 clear A50
 obtain rfl := Option.some.inj H
 go_enter Try.func40, Try.ntmps40
 try go_wp2_with (first | ((with_reducible refine gd_ 1 ?_); refine bx_ 1 #[.int .u64 a0_0, .int .i64 a0_1] 27 ?_; intro gb155 hg w6 hbox hb; have BK155 := a_ (hbox); have GE155 := a_ (bs_0 hg HB); replace HB := hB_ (bl_ HB) hb; clear hb hbox hg))
 have n0_ := a_ (blk_drew BK155.out)
 have n1_ := a_ (below_drew1 HB.out)
 clear BK155
 clear HB
 have BK155 := n0_
 have HB := n1_
 clear n0_ n1_
 refine start_ (n := 14) (S := fun w' => w'.cell? ⟨gb155, 0, none⟩ = some (.int .u64 a0_0) ∧ w'.cell? ⟨gb155, 1, none⟩ = some (.int .i64 a0_1)) (ds := []) #[false, false, false, false, false, false, false, false, false, false, false, false, false, false] (by kernel_rfl) rfl rfl ⟨(blk_cell BK155.out 0).trans rfl, (blk_cell BK155.out 1).trans rfl⟩ (fun hHeld => ?_); refine with_tabW hard_file.tab1 hard_file.bits1 (fun HT_ HW_ => ?_)
 generalize w6.drew = w7 at BK155 HB hHeld ⊢
 refine pu_ HT_ 0 (some 6) ?_
 refine pu_ HT_ 3 (some 9) ?_
 refine take_ (i := 1) (N := some 7) (v := ?_) (a' := ?_) #[true, true, false, true, false, false, false, false, false, false, false, false, false, false] rfl rfl (take_ofW HT_.out HW_.out (by kernel_rfl)) (fun _ _ _ h => h) (Or.inl ⟨by rfl, ?_⟩) hHeld ?_ ?_
 rotate_left
 ·rintro w' ⟨s0, s1⟩
  go_simp
  with_reducible rfl
 rotate_left
 ·exact ap_
 refine take_ (i := 4) (N := some 10) (v := ?_) (a' := ?_) #[true, true, false, true, true, false, false, false, false, false, false, false, false, false] rfl rfl (take_ofW HT_.out HW_.out (by kernel_rfl)) (fun _ _ _ h => h) (Or.inl ⟨by rfl, ?_⟩) hHeld ?_ ?_
 rotate_left
 ·rintro w' ⟨s0, s1⟩
  go_simp
  with_reducible rfl
 rotate_left
 ·exact ap_
 refine pu_ HT_ 5 (some 11) ?_
 refine one_ (i := 2) (N := some 8) #[true, true, true, true, true, true, false, false, false, false, false, false, false, false] rfl rfl (one_of HT_.out (by kernel_rfl)) (by decide) (fun K hK => ?_)
 refine goes_ Try.func63 (by kernel_rfl) rfl #[.int .u64 a0_0] (by rfl) rfl rfl (ar_) ?_
 with_reducible refine (pack_Number.calls k a0_0 t156 _ A2.out).mono ?_
 rintro e w8 ⟨rfl, hb⟩
 refine ⟨_, rfl, ?_⟩
 have n0_ := bB_ BK155 hb
 have n1_ := hB_ (bl_1 HB GE155) hb
 clear BK155
 clear HB
 have BK155 := n0_
 have HB := n1_
 clear n0_ n1_
 (try clear hb)
 (try clear hb2)
 (try clear hk)
 (try clear hi)
 refine hK.out _ _ ⟨(blk_cell BK155.out 0).trans rfl, (blk_cell BK155.out 1).trans rfl⟩ (fun hHeld => ?_)
 clear hK K
 refine norm_ (a' := ?_) ?_ ?_
 rotate_left
 ·show Act.put _ (some 8) _ = _
  simp only [Act.put, List.setIfInBounds_toArray, List.set_cons_zero, List.set_cons_succ, i64_w, i32_w]
  rfl
 refine one_ (i := 6) (N := some 12) #[true, true, true, true, true, true, true, false, false, false, false, false, false, false] rfl rfl (one_of HT_.out (by kernel_rfl)) (by decide) (fun K hK => ?_)
 refine goes_ Try.func63 (by kernel_rfl) rfl #[.int .u64 (IntKind.u64.wrap (a0_1))] (by rfl) rfl rfl (ar_) ?_
 with_reducible refine (pack_Number.calls k (IntKind.u64.wrap (a0_1)) t157 _ A3.out).mono ?_
 rintro e w9 ⟨rfl, hb⟩
 refine ⟨_, rfl, ?_⟩
 have n0_ := bB_ BK155 hb
 have n1_ := hB_ (bl_1 HB GE155) hb
 clear BK155
 clear HB
 have BK155 := n0_
 have HB := n1_
 clear n0_ n1_
 (try clear hb)
 (try clear hb2)
 (try clear hk)
 (try clear hi)
 refine hK.out _ _ ⟨(blk_cell BK155.out 0).trans rfl, (blk_cell BK155.out 1).trans rfl⟩ (fun hHeld => ?_)
 clear hK K
 refine norm_ (a' := ?_) ?_ ?_
 rotate_left
 ·show Act.put _ (some 12) _ = _
  simp only [Act.put, List.setIfInBounds_toArray, List.set_cons_zero, List.set_cons_succ, i64_w, i32_w]
  rfl
 refine pu_ HT_ 7 (some 13) ?_
 refine one_ (i := 8) (N := some 14) #[true, true, true, true, true, true, true, true, true, false, false, false, false, false] rfl rfl (one_of HT_.out (by kernel_rfl)) (by decide) (fun K hK => ?_)
 refine goes_ Try.func59 (by kernel_rfl) rfl #[.string (t156 ++ t157)] (by rfl) rfl rfl (ar_) ?_
 with_reducible refine (pack_Frame.calls k (t156 ++ t157) t158 t159 _ A5.out).mono ?_
 rintro e w10 ⟨rfl, hb⟩
 refine ⟨_, rfl, ?_⟩
 have n0_ := bB_ BK155 hb
 have n1_ := hB_ (bl_1 HB GE155) hb
 clear BK155
 clear HB
 have BK155 := n0_
 have HB := n1_
 clear n0_ n1_
 (try clear hb)
 (try clear hb2)
 (try clear hk)
 (try clear hi)
 refine hK.out _ _ ⟨(blk_cell BK155.out 0).trans rfl, (blk_cell BK155.out 1).trans rfl⟩ (fun hHeld => ?_)
 clear hK K
 refine norm_ (a' := ?_) ?_ ?_
 rotate_left
 ·show Act.put _ (some 14) _ = _
  simp only [Act.put, List.setIfInBounds_toArray, List.set_cons_zero, List.set_cons_succ, i64_w, i32_w]
  rfl
 refine pu_ HT_ 9 (some 5) ?_
 refine pu_ HT_ 10 (some 15) ?_
 refine pu_ HT_ 11 (some 16) ?_
 refine pu_ HT_ 12 (some 3) ?_
 refine pu_ HT_ 13 (some 4) ?_
 refine done_ (done_of HT_.out (by kernel_rfl)) ?_
 try go_wp2
 go_ret
 exact ⟨fz_, bl_1 HB GE155⟩
/-! ### hard_Load: function 15 -/
def hard_Load.f (k : Nat) (l0_0 : List (S71)) (a0_1 : Bool) (a0_2 : Int) : Option (Int × Int × Int) := (disk_Read.f k l0_0 a0_1 a0_2 (⟨#[104, 97, 114, 100]⟩ : ByteArray)).bind fun bt162 => (if bt162.2 = 0 then ((pack_TakeFrame.f k bt162.1).bind fun bt164 => ((hard_read.f k bt164.1).bind fun bt167 => ((hard_file.f k bt167.1 bt167.2).bind fun t170 => (if t170.toList = bt162.1.toList then (some (bt167.1, bt167.2, 0)) else (some (0, 0, 4)))))) else (if bt162.2 = 6 then (some (0, 0, 0)) else (some (0, 0, bt162.2))))
theorem hard_Load.mono : ∀ a0 a1 a2 k, LeO (hard_Load.f k a0 a1 a2) (hard_Load.f (k + 1) a0 a1 a2) := by
 intro a0 a1 a2 k
 unfold hard_Load.f
 repeat' with_reducible first | apply disk_Read.mono | apply hard_file.mono | apply hard_read.mono | apply pack_TakeFrame.mono | apply LeO.refl | apply LeO.none | apply LeO.ite | refine LeO.bind ?_ (fun _ => ?_)
theorem hard_Load.calls (k : Nat) (A0_0 : Option Addr) (c0_0 : Nat) (l0_0 : List (S71)) (a0_1 : Bool) (a0_2 : Int) (r1 : Int) (r2 : Int) (r3 : Int) (w : World) (hr0_0 : Kd.C k71 w A0_0 l0_0.length l0_0) (hc0_0 : l0_0.length ≤ c0_0) (h : hard_Load.f k l0_0 a0_1 a0_2 = some (r1, r2, r3)) :
  Calls Try.prog 15 #[.agg #[.slice A0_0 l0_0.length c0_0, .bool a0_1, .int .i64 a0_2]] w fun e w' => e = .returned (.tuple #[.agg #[.int .u64 r1, .int .i64 r2], .int .i64 r3]) ∧ Below w.heap.size w w' := by
 have hu24 := Try.underlying24
 have hu27 := Try.underlying27
 have HR0_0 := a_ hr0_0
 have HC0_0 := a_ hc0_0
 clear hr0_0 hc0_0
 have HB := a_ (Below.refl w.heap.size w)
 have H : ((disk_Read.f k l0_0 a0_1 a0_2 (⟨#[104, 97, 114, 100]⟩ : ByteArray)).bind fun bt162 => (if bt162.2 = 0 then ((pack_TakeFrame.f k bt162.1).bind fun bt164 => ((hard_read.f k bt164.1).bind fun bt167 => ((hard_file.f k bt167.1 bt167.2).bind fun t170 => (if t170.toList = bt162.1.toList then (some (bt167.1, bt167.2, 0)) else (some (0, 0, 4)))))) else (if bt162.2 = 6 then (some (0, 0, 0)) else (some (0, 0, bt162.2))))) = some (r1, r2, r3) := h
 clear h
 obtain ⟨⟨t162, t163⟩, A20, H⟩ := Option.bind_eq_some_iff.mp H
 try dsimp only at H
 have A2 := a_ A20
 clear A20
 by_cases c3 : t163 = 0
 rotate_left
 ·rw [if_neg c3] at H
  have c3b0 : (t163 == 0) = false := beq_eq_false_iff_ne.mpr c3
  have c3b1 : (t163 != 0) = true := bne_iff_ne.mpr c3
  by_cases c35 : t163 = 6
  rotate_left
  ·rw [if_neg c35] at H
   have c35b0 : (t163 == 6) = false := beq_eq_false_iff_ne.mpr c35
   have c35b1 : (t163 != 6) = true := bne_iff_ne.mpr c35
   simp only [Option.some.injEq, Prod.mk.injEq] at H
   obtain ⟨rfl, rfl, rfl⟩ := H
   go_enter Try.func15, Try.ntmps15
   go_wp2_with (first | ((with_reducible refine gd_ 1 ?_); refine bx_ 1 #[.slice A0_0 l0_0.length c0_0, .bool a0_1, .int .i64 a0_2] 24 ?_; intro gb160 hg w42 hbox hb; have BK160 := a_ (hbox); have GE160 := a_ (bs_0 hg HB); replace HB := hB_ (bl_ HB) hb; clear hb hbox hg) | ((with_reducible refine gd_ 2 ?_); refine bx_ 2 #[.int .u64 0, .int .i64 0] 27 ?_; intro gb161 hg w43 hbox hb; have BK161 := a_ (hbox); have GE161 := a_ (bs_1 hg HB GE160); replace HB := hB_ (bl_1 HB GE160) hb; have NB160_161 := nB_ hg BK160; have NB161_160 := nC_ hg BK160; replace BK160 := bB_ BK160 hb; clear hb hbox hg; have hnb44 := NB160_161.out; have hnc44 := NB161_160.out; obtain ⟨hcz45_0, hcz45_1, hcz45_2, hfz45_0, hfz45_1, hfz45_2⟩ := c3_ BK160) | ((with_reducible refine gk_ 24 ?_); refine gl_ (some 12) Try.func24 #[.agg #[.slice A0_0 l0_0.length c0_0, .bool a0_1, .int .i64 a0_2], .string (⟨#[104, 97, 114, 100]⟩ : ByteArray)] ?_; (with_reducible refine (disk_Read.calls k _ _ l0_0 a0_1 a0_2 (⟨#[104, 97, 114, 100]⟩ : ByteArray) t162 t163 _ ?side1 ?side2 A2.out).mono ?_); (case side1 => exact cl_ (Kd.C_below HR0_0.out HB.out)); (case side2 => exact HC0_0.out); rintro e w46 ⟨rfl, hb⟩; refine ⟨_, rfl, ?_⟩; replace BK160 := bB_ BK160 hb; replace BK161 := bB_ BK161 hb; replace HB := hB_ (bl_2 HB GE160 GE161) hb; (try clear hb); obtain ⟨hcz47_0, hcz47_1, hfz47_0, hfz47_1⟩ := c2_ BK161))
   refine bodyPost_ret (results_ct rfl _ _ gb161 27 #[.int .u64 0, .int .i64 0] (0, 0) _ rfl (bp_0 BK161) Try.underlying27 rfl (by kernel_rfl)) rfl ?_
   exact ⟨fz_, bl_2 HB GE160 GE161⟩


  rw [if_pos c35] at H
  have c35b0 : (t163 == 6) = true := beq_iff_eq.mpr c35
  have c35b1 : (t163 != 6) = false := bne_eq_false_iff_eq.mpr c35
  clear c35
  simp only [Option.some.injEq, Prod.mk.injEq] at H
  obtain ⟨rfl, rfl, rfl⟩ := H
  go_enter Try.func15, Try.ntmps15
  go_wp2_with (first | ((with_reducible refine gd_ 1 ?_); refine bx_ 1 #[.slice A0_0 l0_0.length c0_0, .bool a0_1, .int .i64 a0_2] 24 ?_; intro gb160 hg w36 hbox hb; have BK160 := a_ (hbox); have GE160 := a_ (bs_0 hg HB); replace HB := hB_ (bl_ HB) hb; clear hb hbox hg) | ((with_reducible refine gd_ 2 ?_); refine bx_ 2 #[.int .u64 0, .int .i64 0] 27 ?_; intro gb161 hg w37 hbox hb; have BK161 := a_ (hbox); have GE161 := a_ (bs_1 hg HB GE160); replace HB := hB_ (bl_1 HB GE160) hb; have NB160_161 := nB_ hg BK160; have NB161_160 := nC_ hg BK160; replace BK160 := bB_ BK160 hb; clear hb hbox hg; have hnb38 := NB160_161.out; have hnc38 := NB161_160.out; obtain ⟨hcz39_0, hcz39_1, hcz39_2, hfz39_0, hfz39_1, hfz39_2⟩ := c3_ BK160) | ((with_reducible refine gk_ 24 ?_); refine gl_ (some 12) Try.func24 #[.agg #[.slice A0_0 l0_0.length c0_0, .bool a0_1, .int .i64 a0_2], .string (⟨#[104, 97, 114, 100]⟩ : ByteArray)] ?_; (with_reducible refine (disk_Read.calls k _ _ l0_0 a0_1 a0_2 (⟨#[104, 97, 114, 100]⟩ : ByteArray) t162 t163 _ ?side1 ?side2 A2.out).mono ?_); (case side1 => exact cl_ (Kd.C_below HR0_0.out HB.out)); (case side2 => exact HC0_0.out); rintro e w40 ⟨rfl, hb⟩; refine ⟨_, rfl, ?_⟩; replace BK160 := bB_ BK160 hb; replace BK161 := bB_ BK161 hb; replace HB := hB_ (bl_2 HB GE160 GE161) hb; (try clear hb); obtain ⟨hcz41_0, hcz41_1, hfz41_0, hfz41_1⟩ := c2_ BK161))
  refine bodyPost_ret (results_ct rfl _ _ gb161 27 #[.int .u64 0, .int .i64 0] (0, 0) _ rfl (bp_0 BK161) Try.underlying27 rfl (by kernel_rfl)) rfl ?_
  exact ⟨fz_, bl_2 HB GE160 GE161⟩
 rw [if_pos c3] at H
 have c3b0 : (t163 == 0) = true := beq_iff_eq.mpr c3
 have c3b1 : (t163 != 0) = false := bne_eq_false_iff_eq.mpr c3
 clear c3
 obtain ⟨⟨t164, t165, t166⟩, A40, H⟩ := Option.bind_eq_some_iff.mp H
 try dsimp only at H
 have A4 := a_ A40
 clear A40
 obtain ⟨⟨t167, t168⟩, A50, H⟩ := Option.bind_eq_some_iff.mp H
 try dsimp only at H
 have A5 := a_ A50
 clear A50
 obtain ⟨t170, A60, H⟩ := Option.bind_eq_some_iff.mp H
 try dsimp only at H
 have A6 := a_ A60
 clear A60
 by_cases c7 : t170.toList = t162.toList
 rotate_left
 ·rw [if_neg c7] at H
  have c7b0 : (t170.toList == t162.toList) = false := beq_eq_false_iff_ne.mpr c7
  have c7b1 : (t170.toList != t162.toList) = true := bne_iff_ne.mpr c7
  simp only [Option.some.injEq, Prod.mk.injEq] at H
  obtain ⟨rfl, rfl, rfl⟩ := H
  go_enter Try.func15, Try.ntmps15
  go_wp2_with (first | ((with_reducible refine gd_ 1 ?_); refine bx_ 1 #[.slice A0_0 l0_0.length c0_0, .bool a0_1, .int .i64 a0_2] 24 ?_; intro gb160 hg w22 hbox hb; have BK160 := a_ (hbox); have GE160 := a_ (bs_0 hg HB); replace HB := hB_ (bl_ HB) hb; clear hb hbox hg) | ((with_reducible refine gd_ 2 ?_); refine bx_ 2 #[.int .u64 0, .int .i64 0] 27 ?_; intro gb161 hg w23 hbox hb; have BK161 := a_ (hbox); have GE161 := a_ (bs_1 hg HB GE160); replace HB := hB_ (bl_1 HB GE160) hb; have NB160_161 := nB_ hg BK160; have NB161_160 := nC_ hg BK160; replace BK160 := bB_ BK160 hb; clear hb hbox hg; have hnb24 := NB160_161.out; have hnc24 := NB161_160.out; obtain ⟨hcz25_0, hcz25_1, hcz25_2, hfz25_0, hfz25_1, hfz25_2⟩ := c3_ BK160) | ((with_reducible refine gk_ 24 ?_); refine gl_ (some 12) Try.func24 #[.agg #[.slice A0_0 l0_0.length c0_0, .bool a0_1, .int .i64 a0_2], .string (⟨#[104, 97, 114, 100]⟩ : ByteArray)] ?_; (with_reducible refine (disk_Read.calls k _ _ l0_0 a0_1 a0_2 (⟨#[104, 97, 114, 100]⟩ : ByteArray) t162 t163 _ ?side1 ?side2 A2.out).mono ?_); (case side1 => exact cl_ (Kd.C_below HR0_0.out HB.out)); (case side2 => exact HC0_0.out); rintro e w26 ⟨rfl, hb⟩; refine ⟨_, rfl, ?_⟩; replace BK160 := bB_ BK160 hb; replace BK161 := bB_ BK161 hb; replace HB := hB_ (bl_2 HB GE160 GE161) hb; (try clear hb)) | ((with_reducible refine gk_ 38 ?_); refine gl_ (some 25) Try.func38 #[.string t162] ?_; (with_reducible refine (pack_TakeFrame.calls k t162 t164 t165 t166 _ A4.out).mono ?_); rintro e w27 ⟨rfl, hb⟩; refine ⟨_, rfl, ?_⟩; replace BK160 := bB_ BK160 hb; replace BK161 := bB_ BK161 hb; replace HB := hB_ (bl_2 HB GE160 GE161) hb; (try clear hb)) | ((with_reducible refine gk_ 39 ?_); refine gl_ (some 30) Try.func39 #[.string t164] ?_; (with_reducible refine (hard_read.calls k t164 t167 t168 _ A5.out).mono ?_); rintro e w28 ⟨rfl, hb⟩; refine ⟨_, rfl, ?_⟩; replace BK160 := bB_ BK160 hb; replace BK161 := bB_ BK161 hb; replace HB := hB_ (bl_2 HB GE160 GE161) hb; (try clear hb)) | ((with_reducible refine gd_ 9 ?_); refine bx_ 9 #[.int .u64 0, .int .i64 0] 27 ?_; intro gb169 hg w29 hbox hb; have BK169 := a_ (hbox); have GE169 := a_ (bs_2 hg HB GE160 GE161); replace HB := hB_ (bl_2 HB GE160 GE161) hb; have NB160_169 := nB_ hg BK160; have NB169_160 := nC_ hg BK160; replace BK160 := bB_ BK160 hb; have NB161_169 := nB_ hg BK161; have NB169_161 := nC_ hg BK161; replace BK161 := bB_ BK161 hb; clear hb hbox hg; have hnb30 := NB169_160.out; have hnc30 := NB160_169.out; have hnb31 := NB169_161.out; have hnc31 := NB161_169.out; obtain ⟨hcz32_0, hcz32_1, hfz32_0, hfz32_1⟩ := c2_ BK169) | ((with_reducible refine gk_ 40 ?_); refine gl_ (some 32) Try.func40 #[.agg #[.int .u64 t167, .int .i64 t168]] ?_; (with_reducible refine (hard_file.calls k t167 t168 t170 _ A6.out).mono ?_); rintro e w33 ⟨rfl, hb⟩; refine ⟨_, rfl, ?_⟩; replace BK160 := a_ (blk_below (g := gb160) (o := .cells #[.slice A0_0 l0_0.length c0_0, .bool a0_1, .int .i64 a0_2] 24 (0, 0)) (bp_1 BK160 NB160_169) hb); replace BK161 := a_ (blk_below (g := gb161) (o := .cells #[.int .u64 0, .int .i64 0] 27 (0, 0)) (bp_1 BK161 NB161_169) hb); replace BK169 := a_ (blk_below (g := gb169) (o := .cells #[.int .u64 t167, .int .i64 t168] 27 (0, 0)) (bp_0 BK169) hb); replace HB := hB_ (bl_3 HB GE160 GE161 GE169) hb; (try clear hb); obtain ⟨hcz34_0, hcz34_1, hfz34_0, hfz34_1⟩ := c2_ BK161))
  refine bodyPost_ret (results_ct rfl _ _ gb161 27 #[.int .u64 0, .int .i64 0] (0, 0) _ rfl (bp_0 BK161) Try.underlying27 rfl (by kernel_rfl)) rfl ?_
  exact ⟨fz_, bl_3 HB GE160 GE161 GE169⟩
 rw [if_pos c7] at H
 have c7b0 : (t170.toList == t162.toList) = true := beq_iff_eq.mpr c7
 have c7b1 : (t170.toList != t162.toList) = false := bne_eq_false_iff_eq.mpr c7
 clear c7
 simp only [Option.some.injEq, Prod.mk.injEq] at H
 obtain ⟨rfl, rfl, rfl⟩ := H
 go_enter Try.func15, Try.ntmps15
 go_wp2_with (first | ((with_reducible refine gd_ 1 ?_); refine bx_ 1 #[.slice A0_0 l0_0.length c0_0, .bool a0_1, .int .i64 a0_2] 24 ?_; intro gb160 hg w8 hbox hb; have BK160 := a_ (hbox); have GE160 := a_ (bs_0 hg HB); replace HB := hB_ (bl_ HB) hb; clear hb hbox hg) | ((with_reducible refine gd_ 2 ?_); refine bx_ 2 #[.int .u64 0, .int .i64 0] 27 ?_; intro gb161 hg w9 hbox hb; have BK161 := a_ (hbox); have GE161 := a_ (bs_1 hg HB GE160); replace HB := hB_ (bl_1 HB GE160) hb; have NB160_161 := nB_ hg BK160; have NB161_160 := nC_ hg BK160; replace BK160 := bB_ BK160 hb; clear hb hbox hg; have hnb10 := NB160_161.out; have hnc10 := NB161_160.out; obtain ⟨hcz11_0, hcz11_1, hcz11_2, hfz11_0, hfz11_1, hfz11_2⟩ := c3_ BK160) | ((with_reducible refine gk_ 24 ?_); refine gl_ (some 12) Try.func24 #[.agg #[.slice A0_0 l0_0.length c0_0, .bool a0_1, .int .i64 a0_2], .string (⟨#[104, 97, 114, 100]⟩ : ByteArray)] ?_; (with_reducible refine (disk_Read.calls k _ _ l0_0 a0_1 a0_2 (⟨#[104, 97, 114, 100]⟩ : ByteArray) t162 t163 _ ?side1 ?side2 A2.out).mono ?_); (case side1 => exact cl_ (Kd.C_below HR0_0.out HB.out)); (case side2 => exact HC0_0.out); rintro e w12 ⟨rfl, hb⟩; refine ⟨_, rfl, ?_⟩; replace BK160 := bB_ BK160 hb; replace BK161 := bB_ BK161 hb; replace HB := hB_ (bl_2 HB GE160 GE161) hb; (try clear hb)) | ((with_reducible refine gk_ 38 ?_); refine gl_ (some 25) Try.func38 #[.string t162] ?_; (with_reducible refine (pack_TakeFrame.calls k t162 t164 t165 t166 _ A4.out).mono ?_); rintro e w13 ⟨rfl, hb⟩; refine ⟨_, rfl, ?_⟩; replace BK160 := bB_ BK160 hb; replace BK161 := bB_ BK161 hb; replace HB := hB_ (bl_2 HB GE160 GE161) hb; (try clear hb)) | ((with_reducible refine gk_ 39 ?_); refine gl_ (some 30) Try.func39 #[.string t164] ?_; (with_reducible refine (hard_read.calls k t164 t167 t168 _ A5.out).mono ?_); rintro e w14 ⟨rfl, hb⟩; refine ⟨_, rfl, ?_⟩; replace BK160 := bB_ BK160 hb; replace BK161 := bB_ BK161 hb; replace HB := hB_ (bl_2 HB GE160 GE161) hb; (try clear hb)) | ((with_reducible refine gd_ 9 ?_); refine bx_ 9 #[.int .u64 0, .int .i64 0] 27 ?_; intro gb169 hg w15 hbox hb; have BK169 := a_ (hbox); have GE169 := a_ (bs_2 hg HB GE160 GE161); replace HB := hB_ (bl_2 HB GE160 GE161) hb; have NB160_169 := nB_ hg BK160; have NB169_160 := nC_ hg BK160; replace BK160 := bB_ BK160 hb; have NB161_169 := nB_ hg BK161; have NB169_161 := nC_ hg BK161; replace BK161 := bB_ BK161 hb; clear hb hbox hg; have hnb16 := NB169_160.out; have hnc16 := NB160_169.out; have hnb17 := NB169_161.out; have hnc17 := NB161_169.out; obtain ⟨hcz18_0, hcz18_1, hfz18_0, hfz18_1⟩ := c2_ BK169) | ((with_reducible refine gk_ 40 ?_); refine gl_ (some 32) Try.func40 #[.agg #[.int .u64 t167, .int .i64 t168]] ?_; (with_reducible refine (hard_file.calls k t167 t168 t170 _ A6.out).mono ?_); rintro e w19 ⟨rfl, hb⟩; refine ⟨_, rfl, ?_⟩; replace BK160 := a_ (blk_below (g := gb160) (o := .cells #[.slice A0_0 l0_0.length c0_0, .bool a0_1, .int .i64 a0_2] 24 (0, 0)) (bp_1 BK160 NB160_169) hb); replace BK161 := a_ (blk_below (g := gb161) (o := .cells #[.int .u64 0, .int .i64 0] 27 (0, 0)) (bp_1 BK161 NB161_169) hb); replace BK169 := a_ (blk_below (g := gb169) (o := .cells #[.int .u64 t167, .int .i64 t168] 27 (0, 0)) (bp_0 BK169) hb); replace HB := hB_ (bl_3 HB GE160 GE161 GE169) hb; (try clear hb); obtain ⟨hcz20_0, hcz20_1, hfz20_0, hfz20_1⟩ := c2_ BK169; obtain ⟨hcz21_0, hcz21_1, hfz21_0, hfz21_1⟩ := c2_ BK161))
 refine bodyPost_ret (results_ct rfl _ _ gb161 27 #[.int .u64 t167, .int .i64 t168] (0, 0) _ rfl (bp_0 BK161) Try.underlying27 rfl (by kernel_rfl)) rfl ?_
 exact ⟨fz_, bl_3 HB GE160 GE161 GE169⟩
/-! ### gafferref02_Check: function 46 -/
def gafferref02_Check.l0 : Nat → List (S71) → Int → Int → List (S71) → Bool → Int → Option (Int)
 | 0, _, _, _, _, _, _ => none
 | k + 1, x10, x11, x12, x172000, x172001, x172002 => if x12 < x11 then (if 0 ≤ x12 then (if x12 < (x10.length : Int) then (if ((rd_T71 x10 x12).f2) < 0 then (some 10) else (if ((rd_T71 x10 x12).f2) > (((rd_T71 x10 x12).f1).size : Int) then (some 10) else (if x12 > 0 then (if 0 ≤ (wrap64 (x12 - 1)) then (if (wrap64 (x12 - 1)) < (x172000.length : Int) then (if ((Op.bytesLess (((rd_T71 x172000 (wrap64 (x12 - 1))).f0).toList) (((rd_T71 x10 x12).f0).toList)) = true) then (gafferref02_Check.l0 k x10 x11 (wrap64 (x12 + 1)) x172000 x172001 x172002) else (some 10)) else (none)) else (none)) else (gafferref02_Check.l0 k x10 x11 (wrap64 (x12 + 1)) x172000 x172001 x172002)))) else (none)) else (none)) else (some 0)
def gafferref02_Check.f (k : Nat) (l0_0 : List (S71)) (a0_1 : Bool) (a0_2 : Int) : Option (Int) := if (l0_0.length : Int) > 4096 then (some 10) else (gafferref02_Check.l0 k l0_0 (l0_0.length : Int) 0 l0_0 a0_1 a0_2)
theorem gafferref02_Check.mono_l : ∀ k, (∀ y0 y1 y2 y3 y4 y5, LeO (gafferref02_Check.l0 k y0 y1 y2 y3 y4 y5) (gafferref02_Check.l0 (k + 1) y0 y1 y2 y3 y4 y5))
 | 0 => fun _ _ _ _ _ _ r h => by simp [gafferref02_Check.l0] at h
 | k + 1 => by
  have ih0 := gafferref02_Check.mono_l k
  ·intro y0 y1 y2 y3 y4 y5
   unfold gafferref02_Check.l0
   repeat' with_reducible first | apply ih0 | apply LeO.refl | apply LeO.none | apply LeO.ite | refine LeO.bind ?_ (fun _ => ?_)
theorem gafferref02_Check.mono : ∀ a0 a1 a2 k, LeO (gafferref02_Check.f k a0 a1 a2) (gafferref02_Check.f (k + 1) a0 a1 a2) := by
 intro a0 a1 a2 k
 have ih0 := gafferref02_Check.mono_l k
 unfold gafferref02_Check.f
 repeat' with_reducible first | apply ih0 | apply LeO.refl | apply LeO.none | apply LeO.ite | refine LeO.bind ?_ (fun _ => ?_)
theorem gafferref02_Check.calls (k : Nat) (A0_0 : Option Addr) (c0_0 : Nat) (l0_0 : List (S71)) (a0_1 : Bool) (a0_2 : Int) (r : Int) (w : World) (hr0_0 : Kd.C k71 w A0_0 l0_0.length l0_0) (hc0_0 : l0_0.length ≤ c0_0) (h : gafferref02_Check.f k l0_0 a0_1 a0_2 = some r) :
  Calls Try.prog 46 #[.agg #[.slice A0_0 l0_0.length c0_0, .bool a0_1, .int .i64 a0_2]] w fun e w' => e = .returned (.int .i64 r) ∧ Below w.heap.size w w' := by
 have hu24 := Try.underlying24
 have hu71 := Try.underlying71
 have HR0_0 := a_ hr0_0
 have HC0_0 := a_ hc0_0
 clear hr0_0 hc0_0
 have HB := a_ (Below.refl w.heap.size w)
 have H : (if (l0_0.length : Int) > 4096 then (some 10) else (gafferref02_Check.l0 k l0_0 (l0_0.length : Int) 0 l0_0 a0_1 a0_2)) = some r := h
 clear h
 by_cases c2 : (l0_0.length : Int) > 4096
 ·rw [if_pos c2] at H
  have c2b0 : decide (4096 < (l0_0.length : Int)) = true := decide_eq_true c2
  have c2b1 : decide (4096 < l0_0.length) = true := decide_eq_true (by omega)
  clear c2
  obtain rfl := Option.some.inj H
  go_enter Try.func46, Try.ntmps46
  go_wp2_with (first | ((with_reducible refine gd_ 1 ?_); (try (refine gate_guard (by rfl) ?_; dsimp only)); refine bx_ 1 #[.slice A0_0 l0_0.length c0_0, .bool a0_1, .int .i64 a0_2] 24 ?_; intro gb171 hg w3 hbox hb; have BK171 := a_ (hbox); have GE171 := a_ (bs_0 hg HB); replace HB := hB_ (bl_ HB) hb; clear hb hbox hg; obtain ⟨hcz4_0, hcz4_1, hcz4_2, hfz4_0, hfz4_1, hfz4_2⟩ := c3_ BK171) | go_quiet (first | ((with_reducible refine gd_ 1 ?_); (try (refine gate_guard (by rfl) ?_; dsimp only)); refine bx_ 1 #[.slice A0_0 l0_0.length c0_0, .bool a0_1, .int .i64 a0_2] 24 ?_; intro gb171 hg w3 hbox hb; have BK171 := a_ (hbox); have GE171 := a_ (bs_0 hg HB); replace HB := hB_ (bl_ HB) hb; clear hb hbox hg; obtain ⟨hcz4_0, hcz4_1, hcz4_2, hfz4_0, hfz4_1, hfz4_2⟩ := c3_ BK171)))
  go_ret
  exact ⟨fz_, bl_1 HB GE171⟩
 rw [if_neg c2] at H
 have c2b0 : decide (4096 < (l0_0.length : Int)) = false := decide_eq_false c2
 have c2b1 : decide (4096 < l0_0.length) = false := decide_eq_false (by omega)
 clear c2
 have H' := a_ H
 clear H
 go_enter Try.func46, Try.ntmps46
 go_wp2_with (first | ((with_reducible refine gd_ 1 ?_); (try (refine gate_guard (by rfl) ?_; dsimp only)); refine bx_ 1 #[.slice A0_0 l0_0.length c0_0, .bool a0_1, .int .i64 a0_2] 24 ?_; intro gb171 hg w5 hbox hb; have BK171 := a_ (hbox); have GE171 := a_ (bs_0 hg HB); replace HB := hB_ (bl_ HB) hb; clear hb hbox hg; obtain ⟨hcz6_0, hcz6_1, hcz6_2, hfz6_0, hfz6_1, hfz6_2⟩ := c3_ BK171) | go_quiet (first | ((with_reducible refine gd_ 1 ?_); (try (refine gate_guard (by rfl) ?_; dsimp only)); refine bx_ 1 #[.slice A0_0 l0_0.length c0_0, .bool a0_1, .int .i64 a0_2] 24 ?_; intro gb171 hg w5 hbox hb; have BK171 := a_ (hbox); have GE171 := a_ (bs_0 hg HB); replace HB := hB_ (bl_ HB) hb; clear hb hbox hg; obtain ⟨hcz6_0, hcz6_1, hcz6_2, hfz6_0, hfz6_1, hfz6_2⟩ := c3_ BK171)))
 go_loopg [12] k (fun kq v12 w' => ∃ (x12_1 : Int), v12 = .int .i64 x12_1 ∧ Aside0 (gafferref02_Check.l0 kq l0_0 (l0_0.length : Int) x12_1 l0_0 a0_1 a0_2 = some r) ∧ Aside0 (kq ≤ k) ∧ Aside0 (w'.heap[gb171]? = some (.cells #[(.slice A0_0 l0_0.length c0_0), .bool a0_1, .int .i64 a0_2] 24 (0, 0))) ∧ Aside0 (Below w.heap.size w w'))
 case atStart => exact ⟨(0), fz_, H', ⟨Nat.le_refl _⟩, ⟨bk_ BK171⟩, ⟨bl_1 HB GE171⟩⟩
 case round =>
  clear H'
  try clear c2
  try clear c2b0
  try clear c2b1
  try clear p2
  try clear c4
  obtain ⟨x12_1, rfl, HA, HK1, BK171, HB⟩ := hrel
  cases gk with
  | zero => exact absurd HA.out (by simp [gafferref02_Check.l0])
  | succ k1 =>
   have H := HA.out
   clear HA
   simp only [gafferref02_Check.l0] at H
   by_cases c7 : x12_1 < (l0_0.length : Int)
   rotate_left
   ·rw [if_neg c7] at H
    have c7b0 : decide (x12_1 < (l0_0.length : Int)) = false := decide_eq_false c7
    clear c7
    obtain rfl := Option.some.inj H
    go_wp2
    repeat (go_quiet (fail); try go_wp2)
    go_ret
    exact ⟨fz_, bl_1 HB GE171⟩


   rw [if_pos c7] at H
   have c7b0 : decide (x12_1 < (l0_0.length : Int)) = true := decide_eq_true c7
   clear c7
   by_cases c8 : 0 ≤ x12_1
   rotate_left
   ·rw [if_neg c8] at H
    exact absurd H (by simp)
   rw [if_pos c8] at H
   have c8b0 : decide (0 ≤ x12_1) = true := decide_eq_true c8
   clear c8
   by_cases c9 : x12_1 < (l0_0.length : Int)
   rotate_left
   ·rw [if_neg c9] at H
    exact absurd H (by simp)
   rw [if_pos c9] at H
   have c9b0 : decide (x12_1 < (l0_0.length : Int)) = true := decide_eq_true c9
   clear c9
   by_cases c10 : ((rd_T71 l0_0 x12_1).f2) < 0
   ·rw [if_pos c10] at H
    have c10b0 : decide (((rd_T71 l0_0 x12_1).f2) < 0) = true := decide_eq_true c10
    clear c10
    obtain rfl := Option.some.inj H
    have p172 : 0 ≤ (x12_1 : Int) := od_
    have q172 : x12_1 < (l0_0.length : Int) := od_
    obtain ⟨ad172, e172, hx172_0, hx172_1, hx172_2⟩ := at_T71 HR0_0.out x12_1 p172 q172
    cases e172
    replace hx172_0 := hc_ HB hx172_0
    replace hx172_1 := hc_ HB hx172_1
    replace hx172_2 := hc_ HB hx172_2
    replace p172 := eq_true p172
    replace q172 := eq_true q172
    go_wp2_with (first | ((with_reducible refine gd_ 4 ?_); (try (refine gate_guard (by rfl) ?_; dsimp only)); refine bx_ 4 #[.string (⟨#[]⟩ : ByteArray), .string (⟨#[]⟩ : ByteArray), .int .i64 0] 71 ?_; intro gb173 hg w11 hbox hb; have BK173 := a_ (hbox); have GW173 := a_ (bs_1 hg HB GE171); have GE173 := a_ (bs_1 hg HB GE171); replace HB := hB_ (bl_1 HB GE171) hb; have NB171_173 := nB_ hg BK171; have NB173_171 := nC_ hg BK171; replace BK171 := bB_ BK171 hb; clear hb hbox hg; have hnb12 := NB173_171.out; have hnc12 := NB171_173.out; obtain ⟨hcz13_0, hcz13_1, hcz13_2, hfz13_0, hfz13_1, hfz13_2⟩ := c3_ BK173) | go_quiet (first | ((with_reducible refine gd_ 4 ?_); (try (refine gate_guard (by rfl) ?_; dsimp only)); refine bx_ 4 #[.string (⟨#[]⟩ : ByteArray), .string (⟨#[]⟩ : ByteArray), .int .i64 0] 71 ?_; intro gb173 hg w11 hbox hb; have BK173 := a_ (hbox); have GW173 := a_ (bs_1 hg HB GE171); have GE173 := a_ (bs_1 hg HB GE171); replace HB := hB_ (bl_1 HB GE171) hb; have NB171_173 := nB_ hg BK171; have NB173_171 := nC_ hg BK171; replace BK171 := bB_ BK171 hb; clear hb hbox hg; have hnb12 := NB173_171.out; have hnc12 := NB171_173.out; obtain ⟨hcz13_0, hcz13_1, hcz13_2, hfz13_0, hfz13_1, hfz13_2⟩ := c3_ BK173)))
    go_ret
    exact ⟨fz_, bl_2 HB GE171 GE173⟩
   rw [if_neg c10] at H
   have c10b0 : decide (((rd_T71 l0_0 x12_1).f2) < 0) = false := decide_eq_false c10
   clear c10
   by_cases c14 : ((rd_T71 l0_0 x12_1).f2) > (((rd_T71 l0_0 x12_1).f1).size : Int)
   ·rw [if_pos c14] at H
    have c14b0 : decide ((((rd_T71 l0_0 x12_1).f1).size : Int) < ((rd_T71 l0_0 x12_1).f2)) = true := decide_eq_true c14
    clear c14
    obtain rfl := Option.some.inj H
    have p172 : 0 ≤ (x12_1 : Int) := od_
    have q172 : x12_1 < (l0_0.length : Int) := od_
    obtain ⟨ad172, e172, hx172_0, hx172_1, hx172_2⟩ := at_T71 HR0_0.out x12_1 p172 q172
    cases e172
    replace hx172_0 := hc_ HB hx172_0
    replace hx172_1 := hc_ HB hx172_1
    replace hx172_2 := hc_ HB hx172_2
    replace p172 := eq_true p172
    replace q172 := eq_true q172
    go_wp2_with (first | ((with_reducible refine gd_ 4 ?_); (try (refine gate_guard (by rfl) ?_; dsimp only)); refine bx_ 4 #[.string (⟨#[]⟩ : ByteArray), .string (⟨#[]⟩ : ByteArray), .int .i64 0] 71 ?_; intro gb173 hg w15 hbox hb; have BK173 := a_ (hbox); have GW173 := a_ (bs_1 hg HB GE171); have GE173 := a_ (bs_1 hg HB GE171); replace HB := hB_ (bl_1 HB GE171) hb; have NB171_173 := nB_ hg BK171; have NB173_171 := nC_ hg BK171; replace BK171 := bB_ BK171 hb; clear hb hbox hg; have hnb16 := NB173_171.out; have hnc16 := NB171_173.out; obtain ⟨hcz17_0, hcz17_1, hcz17_2, hfz17_0, hfz17_1, hfz17_2⟩ := c3_ BK173) | go_quiet (first | ((with_reducible refine gd_ 4 ?_); (try (refine gate_guard (by rfl) ?_; dsimp only)); refine bx_ 4 #[.string (⟨#[]⟩ : ByteArray), .string (⟨#[]⟩ : ByteArray), .int .i64 0] 71 ?_; intro gb173 hg w15 hbox hb; have BK173 := a_ (hbox); have GW173 := a_ (bs_1 hg HB GE171); have GE173 := a_ (bs_1 hg HB GE171); replace HB := hB_ (bl_1 HB GE171) hb; have NB171_173 := nB_ hg BK171; have NB173_171 := nC_ hg BK171; replace BK171 := bB_ BK171 hb; clear hb hbox hg; have hnb16 := NB173_171.out; have hnc16 := NB171_173.out; obtain ⟨hcz17_0, hcz17_1, hcz17_2, hfz17_0, hfz17_1, hfz17_2⟩ := c3_ BK173)))
    go_ret
    exact ⟨fz_, bl_2 HB GE171 GE173⟩
   rw [if_neg c14] at H
   have c14b0 : decide ((((rd_T71 l0_0 x12_1).f1).size : Int) < ((rd_T71 l0_0 x12_1).f2)) = false := decide_eq_false c14
   clear c14
   by_cases c18 : x12_1 > 0
   rotate_left
   ·rw [if_neg c18] at H
    have c18b0 : decide (0 < x12_1) = false := decide_eq_false c18
    clear c18
    have H' := a_ H
    clear H
    have p172 : 0 ≤ (x12_1 : Int) := od_
    have q172 : x12_1 < (l0_0.length : Int) := od_
    obtain ⟨ad172, e172, hx172_0, hx172_1, hx172_2⟩ := at_T71 HR0_0.out x12_1 p172 q172
    cases e172
    replace hx172_0 := hc_ HB hx172_0
    replace hx172_1 := hc_ HB hx172_1
    replace hx172_2 := hc_ HB hx172_2
    replace p172 := eq_true p172
    replace q172 := eq_true q172
    go_wp2_with (first | ((with_reducible refine gd_ 4 ?_); (try (refine gate_guard (by rfl) ?_; dsimp only)); refine bx_ 4 #[.string (⟨#[]⟩ : ByteArray), .string (⟨#[]⟩ : ByteArray), .int .i64 0] 71 ?_; intro gb173 hg w31 hbox hb; have BK173 := a_ (hbox); have GW173 := a_ (bs_1 hg HB GE171); have GE173 := a_ (bs_1 hg HB GE171); replace HB := hB_ (bl_1 HB GE171) hb; have NB171_173 := nB_ hg BK171; have NB173_171 := nC_ hg BK171; replace BK171 := bB_ BK171 hb; clear hb hbox hg; have hnb32 := NB173_171.out; have hnc32 := NB171_173.out; obtain ⟨hcz33_0, hcz33_1, hcz33_2, hfz33_0, hfz33_1, hfz33_2⟩ := c3_ BK173) | go_quiet (first | ((with_reducible refine gd_ 4 ?_); (try (refine gate_guard (by rfl) ?_; dsimp only)); refine bx_ 4 #[.string (⟨#[]⟩ : ByteArray), .string (⟨#[]⟩ : ByteArray), .int .i64 0] 71 ?_; intro gb173 hg w31 hbox hb; have BK173 := a_ (hbox); have GW173 := a_ (bs_1 hg HB GE171); have GE173 := a_ (bs_1 hg HB GE171); replace HB := hB_ (bl_1 HB GE171) hb; have NB171_173 := nB_ hg BK171; have NB173_171 := nC_ hg BK171; replace BK171 := bB_ BK171 hb; clear hb hbox hg; have hnb32 := NB173_171.out; have hnc32 := NB171_173.out; obtain ⟨hcz33_0, hcz33_1, hcz33_2, hfz33_0, hfz33_1, hfz33_2⟩ := c3_ BK173)))
    go_roundg k1
    case measure => have := HK1.out; omega
    case rel => exact ⟨(wrap64 (x12_1 + 1)), fz_, H', ⟨by have := HK1.out; omega⟩, ⟨by refine bq_ ?_; refine blk_far ?_ NB171_173.out _; refine bq_ ?_; refine blk_far ?_ NB171_173.out _; refine bq_ ?_; refine blk_far ?_ NB171_173.out _; refine bq_ ?_; exact BK171.out⟩, ⟨bl_2 HB GE171 GE173⟩⟩
   rw [if_pos c18] at H
   have c18b0 : decide (0 < x12_1) = true := decide_eq_true c18
   clear c18
   obtain ⟨ji19, hji19⟩ : ∃ j_ : Int, (wrap64 (x12_1 - 1)) = j_ := ⟨_, rfl⟩
   replace H : (if 0 ≤ (ji19) then (if (ji19) < (l0_0.length : Int) then (if ((Op.bytesLess (((rd_T71 l0_0 (ji19)).f0).toList) (((rd_T71 l0_0 x12_1).f0).toList)) = true) then (gafferref02_Check.l0 k1 l0_0 (l0_0.length : Int) (wrap64 (x12_1 + 1)) l0_0 a0_1 a0_2) else (some 10)) else (none)) else (none)) = some r := by first | (rw [hji19] at H; exact H) | (simp only [hji19] at H ⊢; exact H)
   have hji19w : (IntKind.i64.wrap (x12_1 - 1)) = ji19 := (i64_w _).trans hji19
   by_cases c20 : 0 ≤ (ji19)
   rotate_left
   ·rw [if_neg c20] at H
    exact absurd H (by simp)
   rw [if_pos c20] at H
   have c20b0 : decide (0 ≤ (ji19)) = true := decide_eq_true c20
   clear c20
   by_cases c21 : (ji19) < (l0_0.length : Int)
   rotate_left
   ·rw [if_neg c21] at H
    exact absurd H (by simp)
   rw [if_pos c21] at H
   have c21b0 : decide ((ji19) < (l0_0.length : Int)) = true := decide_eq_true c21
   clear c21
   by_cases c22 : ((Op.bytesLess (((rd_T71 l0_0 (ji19)).f0).toList) (((rd_T71 l0_0 x12_1).f0).toList)) = true)
   rotate_left
   ·rw [if_neg c22] at H
    have c22b0 : (Op.bytesLess (((rd_T71 l0_0 (ji19)).f0).toList) (((rd_T71 l0_0 x12_1).f0).toList)) = false := by simpa using c22
    clear c22
    obtain rfl := Option.some.inj H
    have p172 : 0 ≤ (x12_1 : Int) := od_
    have q172 : x12_1 < (l0_0.length : Int) := od_
    obtain ⟨ad172, e172, hx172_0, hx172_1, hx172_2⟩ := at_T71 HR0_0.out x12_1 p172 q172
    cases e172
    replace hx172_0 := hc_ HB hx172_0
    replace hx172_1 := hc_ HB hx172_1
    replace hx172_2 := hc_ HB hx172_2
    replace p172 := eq_true p172
    replace q172 := eq_true q172
    go_wp2_with (first | ((with_reducible refine gd_ 4 ?_); (try (refine gate_guard (by rfl) ?_; dsimp only)); refine bx_ 4 #[.string (⟨#[]⟩ : ByteArray), .string (⟨#[]⟩ : ByteArray), .int .i64 0] 71 ?_; intro gb173 hg w27 hbox hb; have BK173 := a_ (hbox); have GW173 := a_ (bs_1 hg HB GE171); have GE173 := a_ (bs_1 hg HB GE171); replace HB := hB_ (bl_1 HB GE171) hb; have NB171_173 := nB_ hg BK171; have NB173_171 := nC_ hg BK171; replace BK171 := bB_ BK171 hb; clear hb hbox hg; have hnb28 := NB173_171.out; have hnc28 := NB171_173.out; obtain ⟨hcz29_0, hcz29_1, hcz29_2, hfz29_0, hfz29_1, hfz29_2⟩ := c3_ BK173; obtain ⟨hcz30_0, hcz30_1, hcz30_2, hfz30_0, hfz30_1, hfz30_2⟩ := c3_ BK171; have p174 : 0 ≤ ((ji19) : Int) := od_; have q174 : (ji19) < (l0_0.length : Int) := od_; obtain ⟨ad174, e174, hx174_0, hx174_1, hx174_2⟩ := at_T71 HR0_0.out (ji19) p174 q174; obtain rfl : ad172 = ad174 := (by injection e174); have hn174_0 : ad172.block ≠ gb173 := Nat.ne_of_lt (Nat.lt_of_lt_of_le (by have := World.block_lt_of_cell? _ _ hx174_0; first | rwa [add_block] at this | exact this) GW173.out); have hn174_1 : ad172.block ≠ gb173 := Nat.ne_of_lt (Nat.lt_of_lt_of_le (by have := World.block_lt_of_cell? _ _ hx174_0; first | rwa [add_block] at this | exact this) GW173.out); have hn174_2 : ad172.block ≠ gb173 := Nat.ne_of_lt (Nat.lt_of_lt_of_le (by have := World.block_lt_of_cell? _ _ hx174_0; first | rwa [add_block] at this | exact this) GW173.out); replace hx174_0 := (HB.out.cell (World.block_lt_of_cell? w _ hx174_0)).trans hx174_0; replace hx174_1 := (HB.out.cell (World.block_lt_of_cell? w _ hx174_1)).trans hx174_1; replace hx174_2 := (HB.out.cell (World.block_lt_of_cell? w _ hx174_2)).trans hx174_2; replace hx174_0 := (cf_ (p := ⟨gb173, 0, none⟩) hn174_0 (.string ((rd_T71 l0_0 x12_1).f0))).trans hx174_0; replace hx174_1 := (cf_ (p := ⟨gb173, 0, none⟩) hn174_0 (.string ((rd_T71 l0_0 x12_1).f0))).trans hx174_1; replace hx174_2 := (cf_ (p := ⟨gb173, 0, none⟩) hn174_0 (.string ((rd_T71 l0_0 x12_1).f0))).trans hx174_2; replace hx174_0 := (cf_ (p := ⟨gb173, 1, none⟩) hn174_1 (.string ((rd_T71 l0_0 x12_1).f1))).trans hx174_0; replace hx174_1 := (cf_ (p := ⟨gb173, 1, none⟩) hn174_1 (.string ((rd_T71 l0_0 x12_1).f1))).trans hx174_1; replace hx174_2 := (cf_ (p := ⟨gb173, 1, none⟩) hn174_1 (.string ((rd_T71 l0_0 x12_1).f1))).trans hx174_2; replace hx174_0 := (cf_ (p := ⟨gb173, 2, none⟩) hn174_2 (.int .i64 ((rd_T71 l0_0 x12_1).f2))).trans hx174_0; replace hx174_1 := (cf_ (p := ⟨gb173, 2, none⟩) hn174_2 (.int .i64 ((rd_T71 l0_0 x12_1).f2))).trans hx174_1; replace hx174_2 := (cf_ (p := ⟨gb173, 2, none⟩) hn174_2 (.int .i64 ((rd_T71 l0_0 x12_1).f2))).trans hx174_2; (try have hy174_0 := fun (n_ : Nat) => (show (((((w27.drewN n_).setCell ⟨gb173, 0, none⟩ (.string ((rd_T71 l0_0 x12_1).f0))).setCell ⟨gb173, 1, none⟩ (.string ((rd_T71 l0_0 x12_1).f1))).setCell ⟨gb173, 2, none⟩ (.int .i64 ((rd_T71 l0_0 x12_1).f2)))).cell? _ = some _ from hx174_0)); (try have hy174_1 := fun (n_ : Nat) => (show (((((w27.drewN n_).setCell ⟨gb173, 0, none⟩ (.string ((rd_T71 l0_0 x12_1).f0))).setCell ⟨gb173, 1, none⟩ (.string ((rd_T71 l0_0 x12_1).f1))).setCell ⟨gb173, 2, none⟩ (.int .i64 ((rd_T71 l0_0 x12_1).f2)))).cell? _ = some _ from hx174_1)); (try have hy174_2 := fun (n_ : Nat) => (show (((((w27.drewN n_).setCell ⟨gb173, 0, none⟩ (.string ((rd_T71 l0_0 x12_1).f0))).setCell ⟨gb173, 1, none⟩ (.string ((rd_T71 l0_0 x12_1).f1))).setCell ⟨gb173, 2, none⟩ (.int .i64 ((rd_T71 l0_0 x12_1).f2)))).cell? _ = some _ from hx174_2)); clear hn174_0; clear hn174_1; clear hn174_2; replace p174 := eq_true p174; replace q174 := eq_true q174) | go_quiet (first | ((with_reducible refine gd_ 4 ?_); (try (refine gate_guard (by rfl) ?_; dsimp only)); refine bx_ 4 #[.string (⟨#[]⟩ : ByteArray), .string (⟨#[]⟩ : ByteArray), .int .i64 0] 71 ?_; intro gb173 hg w27 hbox hb; have BK173 := a_ (hbox); have GW173 := a_ (bs_1 hg HB GE171); have GE173 := a_ (bs_1 hg HB GE171); replace HB := hB_ (bl_1 HB GE171) hb; have NB171_173 := nB_ hg BK171; have NB173_171 := nC_ hg BK171; replace BK171 := bB_ BK171 hb; clear hb hbox hg; have hnb28 := NB173_171.out; have hnc28 := NB171_173.out; obtain ⟨hcz29_0, hcz29_1, hcz29_2, hfz29_0, hfz29_1, hfz29_2⟩ := c3_ BK173; obtain ⟨hcz30_0, hcz30_1, hcz30_2, hfz30_0, hfz30_1, hfz30_2⟩ := c3_ BK171; have p174 : 0 ≤ ((ji19) : Int) := od_; have q174 : (ji19) < (l0_0.length : Int) := od_; obtain ⟨ad174, e174, hx174_0, hx174_1, hx174_2⟩ := at_T71 HR0_0.out (ji19) p174 q174; obtain rfl : ad172 = ad174 := (by injection e174); have hn174_0 : ad172.block ≠ gb173 := Nat.ne_of_lt (Nat.lt_of_lt_of_le (by have := World.block_lt_of_cell? _ _ hx174_0; first | rwa [add_block] at this | exact this) GW173.out); have hn174_1 : ad172.block ≠ gb173 := Nat.ne_of_lt (Nat.lt_of_lt_of_le (by have := World.block_lt_of_cell? _ _ hx174_0; first | rwa [add_block] at this | exact this) GW173.out); have hn174_2 : ad172.block ≠ gb173 := Nat.ne_of_lt (Nat.lt_of_lt_of_le (by have := World.block_lt_of_cell? _ _ hx174_0; first | rwa [add_block] at this | exact this) GW173.out); replace hx174_0 := (HB.out.cell (World.block_lt_of_cell? w _ hx174_0)).trans hx174_0; replace hx174_1 := (HB.out.cell (World.block_lt_of_cell? w _ hx174_1)).trans hx174_1; replace hx174_2 := (HB.out.cell (World.block_lt_of_cell? w _ hx174_2)).trans hx174_2; replace hx174_0 := (cf_ (p := ⟨gb173, 0, none⟩) hn174_0 (.string ((rd_T71 l0_0 x12_1).f0))).trans hx174_0; replace hx174_1 := (cf_ (p := ⟨gb173, 0, none⟩) hn174_0 (.string ((rd_T71 l0_0 x12_1).f0))).trans hx174_1; replace hx174_2 := (cf_ (p := ⟨gb173, 0, none⟩) hn174_0 (.string ((rd_T71 l0_0 x12_1).f0))).trans hx174_2; replace hx174_0 := (cf_ (p := ⟨gb173, 1, none⟩) hn174_1 (.string ((rd_T71 l0_0 x12_1).f1))).trans hx174_0; replace hx174_1 := (cf_ (p := ⟨gb173, 1, none⟩) hn174_1 (.string ((rd_T71 l0_0 x12_1).f1))).trans hx174_1; replace hx174_2 := (cf_ (p := ⟨gb173, 1, none⟩) hn174_1 (.string ((rd_T71 l0_0 x12_1).f1))).trans hx174_2; replace hx174_0 := (cf_ (p := ⟨gb173, 2, none⟩) hn174_2 (.int .i64 ((rd_T71 l0_0 x12_1).f2))).trans hx174_0; replace hx174_1 := (cf_ (p := ⟨gb173, 2, none⟩) hn174_2 (.int .i64 ((rd_T71 l0_0 x12_1).f2))).trans hx174_1; replace hx174_2 := (cf_ (p := ⟨gb173, 2, none⟩) hn174_2 (.int .i64 ((rd_T71 l0_0 x12_1).f2))).trans hx174_2; (try have hy174_0 := fun (n_ : Nat) => (show (((((w27.drewN n_).setCell ⟨gb173, 0, none⟩ (.string ((rd_T71 l0_0 x12_1).f0))).setCell ⟨gb173, 1, none⟩ (.string ((rd_T71 l0_0 x12_1).f1))).setCell ⟨gb173, 2, none⟩ (.int .i64 ((rd_T71 l0_0 x12_1).f2)))).cell? _ = some _ from hx174_0)); (try have hy174_1 := fun (n_ : Nat) => (show (((((w27.drewN n_).setCell ⟨gb173, 0, none⟩ (.string ((rd_T71 l0_0 x12_1).f0))).setCell ⟨gb173, 1, none⟩ (.string ((rd_T71 l0_0 x12_1).f1))).setCell ⟨gb173, 2, none⟩ (.int .i64 ((rd_T71 l0_0 x12_1).f2)))).cell? _ = some _ from hx174_1)); (try have hy174_2 := fun (n_ : Nat) => (show (((((w27.drewN n_).setCell ⟨gb173, 0, none⟩ (.string ((rd_T71 l0_0 x12_1).f0))).setCell ⟨gb173, 1, none⟩ (.string ((rd_T71 l0_0 x12_1).f1))).setCell ⟨gb173, 2, none⟩ (.int .i64 ((rd_T71 l0_0 x12_1).f2)))).cell? _ = some _ from hx174_2)); clear hn174_0; clear hn174_1; clear hn174_2; replace p174 := eq_true p174; replace q174 := eq_true q174)))
    go_ret
    exact ⟨by first | rfl | (simp [errW_none, errW_some] <;> rfl) | (simp only [← hji19]; first | rfl | (simp [errW_none, errW_some] <;> rfl)) | (simp [*, errW_none, errW_some] <;> rfl), bl_2 HB GE171 GE173⟩
   rw [if_pos c22] at H
   have c22b0 : (Op.bytesLess (((rd_T71 l0_0 (ji19)).f0).toList) (((rd_T71 l0_0 x12_1).f0).toList)) = true := c22
   clear c22
   have H' := a_ H
   clear H
   have p172 : 0 ≤ (x12_1 : Int) := od_
   have q172 : x12_1 < (l0_0.length : Int) := od_
   obtain ⟨ad172, e172, hx172_0, hx172_1, hx172_2⟩ := at_T71 HR0_0.out x12_1 p172 q172
   cases e172
   replace hx172_0 := hc_ HB hx172_0
   replace hx172_1 := hc_ HB hx172_1
   replace hx172_2 := hc_ HB hx172_2
   replace p172 := eq_true p172
   replace q172 := eq_true q172
   go_wp2_with (first | ((with_reducible refine gd_ 4 ?_); (try (refine gate_guard (by rfl) ?_; dsimp only)); refine bx_ 4 #[.string (⟨#[]⟩ : ByteArray), .string (⟨#[]⟩ : ByteArray), .int .i64 0] 71 ?_; intro gb173 hg w23 hbox hb; have BK173 := a_ (hbox); have GW173 := a_ (bs_1 hg HB GE171); have GE173 := a_ (bs_1 hg HB GE171); replace HB := hB_ (bl_1 HB GE171) hb; have NB171_173 := nB_ hg BK171; have NB173_171 := nC_ hg BK171; replace BK171 := bB_ BK171 hb; clear hb hbox hg; have hnb24 := NB173_171.out; have hnc24 := NB171_173.out; obtain ⟨hcz25_0, hcz25_1, hcz25_2, hfz25_0, hfz25_1, hfz25_2⟩ := c3_ BK173; obtain ⟨hcz26_0, hcz26_1, hcz26_2, hfz26_0, hfz26_1, hfz26_2⟩ := c3_ BK171; have p174 : 0 ≤ ((ji19) : Int) := od_; have q174 : (ji19) < (l0_0.length : Int) := od_; obtain ⟨ad174, e174, hx174_0, hx174_1, hx174_2⟩ := at_T71 HR0_0.out (ji19) p174 q174; obtain rfl : ad172 = ad174 := (by injection e174); have hn174_0 : ad172.block ≠ gb173 := Nat.ne_of_lt (Nat.lt_of_lt_of_le (by have := World.block_lt_of_cell? _ _ hx174_0; first | rwa [add_block] at this | exact this) GW173.out); have hn174_1 : ad172.block ≠ gb173 := Nat.ne_of_lt (Nat.lt_of_lt_of_le (by have := World.block_lt_of_cell? _ _ hx174_0; first | rwa [add_block] at this | exact this) GW173.out); have hn174_2 : ad172.block ≠ gb173 := Nat.ne_of_lt (Nat.lt_of_lt_of_le (by have := World.block_lt_of_cell? _ _ hx174_0; first | rwa [add_block] at this | exact this) GW173.out); replace hx174_0 := (HB.out.cell (World.block_lt_of_cell? w _ hx174_0)).trans hx174_0; replace hx174_1 := (HB.out.cell (World.block_lt_of_cell? w _ hx174_1)).trans hx174_1; replace hx174_2 := (HB.out.cell (World.block_lt_of_cell? w _ hx174_2)).trans hx174_2; replace hx174_0 := (cf_ (p := ⟨gb173, 0, none⟩) hn174_0 (.string ((rd_T71 l0_0 x12_1).f0))).trans hx174_0; replace hx174_1 := (cf_ (p := ⟨gb173, 0, none⟩) hn174_0 (.string ((rd_T71 l0_0 x12_1).f0))).trans hx174_1; replace hx174_2 := (cf_ (p := ⟨gb173, 0, none⟩) hn174_0 (.string ((rd_T71 l0_0 x12_1).f0))).trans hx174_2; replace hx174_0 := (cf_ (p := ⟨gb173, 1, none⟩) hn174_1 (.string ((rd_T71 l0_0 x12_1).f1))).trans hx174_0; replace hx174_1 := (cf_ (p := ⟨gb173, 1, none⟩) hn174_1 (.string ((rd_T71 l0_0 x12_1).f1))).trans hx174_1; replace hx174_2 := (cf_ (p := ⟨gb173, 1, none⟩) hn174_1 (.string ((rd_T71 l0_0 x12_1).f1))).trans hx174_2; replace hx174_0 := (cf_ (p := ⟨gb173, 2, none⟩) hn174_2 (.int .i64 ((rd_T71 l0_0 x12_1).f2))).trans hx174_0; replace hx174_1 := (cf_ (p := ⟨gb173, 2, none⟩) hn174_2 (.int .i64 ((rd_T71 l0_0 x12_1).f2))).trans hx174_1; replace hx174_2 := (cf_ (p := ⟨gb173, 2, none⟩) hn174_2 (.int .i64 ((rd_T71 l0_0 x12_1).f2))).trans hx174_2; (try have hy174_0 := fun (n_ : Nat) => (show (((((w23.drewN n_).setCell ⟨gb173, 0, none⟩ (.string ((rd_T71 l0_0 x12_1).f0))).setCell ⟨gb173, 1, none⟩ (.string ((rd_T71 l0_0 x12_1).f1))).setCell ⟨gb173, 2, none⟩ (.int .i64 ((rd_T71 l0_0 x12_1).f2)))).cell? _ = some _ from hx174_0)); (try have hy174_1 := fun (n_ : Nat) => (show (((((w23.drewN n_).setCell ⟨gb173, 0, none⟩ (.string ((rd_T71 l0_0 x12_1).f0))).setCell ⟨gb173, 1, none⟩ (.string ((rd_T71 l0_0 x12_1).f1))).setCell ⟨gb173, 2, none⟩ (.int .i64 ((rd_T71 l0_0 x12_1).f2)))).cell? _ = some _ from hx174_1)); (try have hy174_2 := fun (n_ : Nat) => (show (((((w23.drewN n_).setCell ⟨gb173, 0, none⟩ (.string ((rd_T71 l0_0 x12_1).f0))).setCell ⟨gb173, 1, none⟩ (.string ((rd_T71 l0_0 x12_1).f1))).setCell ⟨gb173, 2, none⟩ (.int .i64 ((rd_T71 l0_0 x12_1).f2)))).cell? _ = some _ from hx174_2)); clear hn174_0; clear hn174_1; clear hn174_2; replace p174 := eq_true p174; replace q174 := eq_true q174) | go_quiet (first | ((with_reducible refine gd_ 4 ?_); (try (refine gate_guard (by rfl) ?_; dsimp only)); refine bx_ 4 #[.string (⟨#[]⟩ : ByteArray), .string (⟨#[]⟩ : ByteArray), .int .i64 0] 71 ?_; intro gb173 hg w23 hbox hb; have BK173 := a_ (hbox); have GW173 := a_ (bs_1 hg HB GE171); have GE173 := a_ (bs_1 hg HB GE171); replace HB := hB_ (bl_1 HB GE171) hb; have NB171_173 := nB_ hg BK171; have NB173_171 := nC_ hg BK171; replace BK171 := bB_ BK171 hb; clear hb hbox hg; have hnb24 := NB173_171.out; have hnc24 := NB171_173.out; obtain ⟨hcz25_0, hcz25_1, hcz25_2, hfz25_0, hfz25_1, hfz25_2⟩ := c3_ BK173; obtain ⟨hcz26_0, hcz26_1, hcz26_2, hfz26_0, hfz26_1, hfz26_2⟩ := c3_ BK171; have p174 : 0 ≤ ((ji19) : Int) := od_; have q174 : (ji19) < (l0_0.length : Int) := od_; obtain ⟨ad174, e174, hx174_0, hx174_1, hx174_2⟩ := at_T71 HR0_0.out (ji19) p174 q174; obtain rfl : ad172 = ad174 := (by injection e174); have hn174_0 : ad172.block ≠ gb173 := Nat.ne_of_lt (Nat.lt_of_lt_of_le (by have := World.block_lt_of_cell? _ _ hx174_0; first | rwa [add_block] at this | exact this) GW173.out); have hn174_1 : ad172.block ≠ gb173 := Nat.ne_of_lt (Nat.lt_of_lt_of_le (by have := World.block_lt_of_cell? _ _ hx174_0; first | rwa [add_block] at this | exact this) GW173.out); have hn174_2 : ad172.block ≠ gb173 := Nat.ne_of_lt (Nat.lt_of_lt_of_le (by have := World.block_lt_of_cell? _ _ hx174_0; first | rwa [add_block] at this | exact this) GW173.out); replace hx174_0 := (HB.out.cell (World.block_lt_of_cell? w _ hx174_0)).trans hx174_0; replace hx174_1 := (HB.out.cell (World.block_lt_of_cell? w _ hx174_1)).trans hx174_1; replace hx174_2 := (HB.out.cell (World.block_lt_of_cell? w _ hx174_2)).trans hx174_2; replace hx174_0 := (cf_ (p := ⟨gb173, 0, none⟩) hn174_0 (.string ((rd_T71 l0_0 x12_1).f0))).trans hx174_0; replace hx174_1 := (cf_ (p := ⟨gb173, 0, none⟩) hn174_0 (.string ((rd_T71 l0_0 x12_1).f0))).trans hx174_1; replace hx174_2 := (cf_ (p := ⟨gb173, 0, none⟩) hn174_0 (.string ((rd_T71 l0_0 x12_1).f0))).trans hx174_2; replace hx174_0 := (cf_ (p := ⟨gb173, 1, none⟩) hn174_1 (.string ((rd_T71 l0_0 x12_1).f1))).trans hx174_0; replace hx174_1 := (cf_ (p := ⟨gb173, 1, none⟩) hn174_1 (.string ((rd_T71 l0_0 x12_1).f1))).trans hx174_1; replace hx174_2 := (cf_ (p := ⟨gb173, 1, none⟩) hn174_1 (.string ((rd_T71 l0_0 x12_1).f1))).trans hx174_2; replace hx174_0 := (cf_ (p := ⟨gb173, 2, none⟩) hn174_2 (.int .i64 ((rd_T71 l0_0 x12_1).f2))).trans hx174_0; replace hx174_1 := (cf_ (p := ⟨gb173, 2, none⟩) hn174_2 (.int .i64 ((rd_T71 l0_0 x12_1).f2))).trans hx174_1; replace hx174_2 := (cf_ (p := ⟨gb173, 2, none⟩) hn174_2 (.int .i64 ((rd_T71 l0_0 x12_1).f2))).trans hx174_2; (try have hy174_0 := fun (n_ : Nat) => (show (((((w23.drewN n_).setCell ⟨gb173, 0, none⟩ (.string ((rd_T71 l0_0 x12_1).f0))).setCell ⟨gb173, 1, none⟩ (.string ((rd_T71 l0_0 x12_1).f1))).setCell ⟨gb173, 2, none⟩ (.int .i64 ((rd_T71 l0_0 x12_1).f2)))).cell? _ = some _ from hx174_0)); (try have hy174_1 := fun (n_ : Nat) => (show (((((w23.drewN n_).setCell ⟨gb173, 0, none⟩ (.string ((rd_T71 l0_0 x12_1).f0))).setCell ⟨gb173, 1, none⟩ (.string ((rd_T71 l0_0 x12_1).f1))).setCell ⟨gb173, 2, none⟩ (.int .i64 ((rd_T71 l0_0 x12_1).f2)))).cell? _ = some _ from hx174_1)); (try have hy174_2 := fun (n_ : Nat) => (show (((((w23.drewN n_).setCell ⟨gb173, 0, none⟩ (.string ((rd_T71 l0_0 x12_1).f0))).setCell ⟨gb173, 1, none⟩ (.string ((rd_T71 l0_0 x12_1).f1))).setCell ⟨gb173, 2, none⟩ (.int .i64 ((rd_T71 l0_0 x12_1).f2)))).cell? _ = some _ from hx174_2)); clear hn174_0; clear hn174_1; clear hn174_2; replace p174 := eq_true p174; replace q174 := eq_true q174)))
   go_roundg k1
   case measure => have := HK1.out; omega
   case rel => exact ⟨(wrap64 (x12_1 + 1)), fz_, H', ⟨by have := HK1.out; omega⟩, ⟨by refine bq_ ?_; refine blk_far ?_ NB171_173.out _; refine bq_ ?_; refine blk_far ?_ NB171_173.out _; refine bq_ ?_; refine blk_far ?_ NB171_173.out _; refine bq_ ?_; exact BK171.out⟩, ⟨bl_2 HB GE171 GE173⟩⟩
/-! ### gafferref02_find: function 64 -/
def gafferref02_find.l0 : Nat → ByteArray → List (S71) → Int → Int → Option (Int)
 | 0, _, _, _, _ => none
 | k + 1, x1, x8, x9, x10 => if x10 < x9 then (if 0 ≤ x10 then (if x10 < (x8.length : Int) then (if ((rd_T71 x8 x10).f0).toList = x1.toList then (some x10) else (gafferref02_find.l0 k x1 x8 x9 (wrap64 (x10 + 1)))) else (none)) else (none)) else (some (-1))
def gafferref02_find.f (k : Nat) (l0_0 : List (S71)) (a0_1 : Bool) (a0_2 : Int) (a1 : ByteArray) : Option (Int) := gafferref02_find.l0 k a1 l0_0 (l0_0.length : Int) 0
theorem gafferref02_find.mono_l : ∀ k, (∀ y0 y1 y2 y3, LeO (gafferref02_find.l0 k y0 y1 y2 y3) (gafferref02_find.l0 (k + 1) y0 y1 y2 y3))
 | 0 => fun _ _ _ _ r h => by simp [gafferref02_find.l0] at h
 | k + 1 => by
  have ih0 := gafferref02_find.mono_l k
  ·intro y0 y1 y2 y3
   unfold gafferref02_find.l0
   repeat' with_reducible first | apply ih0 | apply LeO.refl | apply LeO.none | apply LeO.ite | refine LeO.bind ?_ (fun _ => ?_)
theorem gafferref02_find.mono : ∀ a0 a1 a2 a3 k, LeO (gafferref02_find.f k a0 a1 a2 a3) (gafferref02_find.f (k + 1) a0 a1 a2 a3) := by
 intro a0 a1 a2 a3 k
 have ih0 := gafferref02_find.mono_l k
 unfold gafferref02_find.f
 repeat' with_reducible first | apply ih0 | apply LeO.refl | apply LeO.none | apply LeO.ite | refine LeO.bind ?_ (fun _ => ?_)
theorem gafferref02_find.calls (k : Nat) (A0_0 : Option Addr) (c0_0 : Nat) (l0_0 : List (S71)) (a0_1 : Bool) (a0_2 : Int) (a1 : ByteArray) (r : Int) (w : World) (hr0_0 : Kd.C k71 w A0_0 l0_0.length l0_0) (hc0_0 : l0_0.length ≤ c0_0) (h : gafferref02_find.f k l0_0 a0_1 a0_2 a1 = some r) :
  Calls Try.prog 64 #[.agg #[.slice A0_0 l0_0.length c0_0, .bool a0_1, .int .i64 a0_2], .string a1] w fun e w' => e = .returned (.int .i64 r) ∧ Below w.heap.size w w' := by
 have hu24 := Try.underlying24
 have hu71 := Try.underlying71
 have HR0_0 := a_ hr0_0
 have HC0_0 := a_ hc0_0
 clear hr0_0 hc0_0
 have HB := a_ (Below.refl w.heap.size w)
 have H : (gafferref02_find.l0 k a1 l0_0 (l0_0.length : Int) 0) = some r := h
 clear h
 have H' := a_ H
 clear H
 go_enter Try.func64, Try.ntmps64
 go_wp2_with (first | ((with_reducible refine gd_ 2 ?_); refine bx_ 2 #[.slice A0_0 l0_0.length c0_0, .bool a0_1, .int .i64 a0_2] 24 ?_; intro gb175 hg w3 hbox hb; have BK175 := a_ (hbox); have GE175 := a_ (bs_0 hg HB); replace HB := hB_ (bl_ HB) hb; clear hb hbox hg; obtain ⟨hcz4_0, hcz4_1, hcz4_2, hfz4_0, hfz4_1, hfz4_2⟩ := c3_ BK175))
 go_loopg [10] k (fun kq v10 w' => ∃ (x10_1 : Int), v10 = .int .i64 x10_1 ∧ Aside0 (gafferref02_find.l0 kq a1 l0_0 (l0_0.length : Int) x10_1 = some r) ∧ Aside0 (kq ≤ k) ∧ Aside0 (w'.heap[gb175]? = some (.cells #[(.slice A0_0 l0_0.length c0_0), .bool a0_1, .int .i64 a0_2] 24 (0, 0))) ∧ Aside0 (Below w.heap.size w w'))
 case atStart => exact ⟨(0), fz_, H', ⟨Nat.le_refl _⟩, ⟨bk_ BK175⟩, ⟨bl_1 HB GE175⟩⟩
 case round =>
  clear H'
  try clear p2
  obtain ⟨x10_1, rfl, HA, HK1, BK175, HB⟩ := hrel
  cases gk with
  | zero => exact absurd HA.out (by simp [gafferref02_find.l0])
  | succ k1 =>
   have H := HA.out
   clear HA
   simp only [gafferref02_find.l0] at H
   by_cases c5 : x10_1 < (l0_0.length : Int)
   rotate_left
   ·rw [if_neg c5] at H
    have c5b0 : decide (x10_1 < (l0_0.length : Int)) = false := decide_eq_false c5
    clear c5
    obtain rfl := Option.some.inj H
    go_wp2
    go_ret
    exact ⟨fz_, bl_1 HB GE175⟩


   rw [if_pos c5] at H
   have c5b0 : decide (x10_1 < (l0_0.length : Int)) = true := decide_eq_true c5
   clear c5
   by_cases c6 : 0 ≤ x10_1
   rotate_left
   ·rw [if_neg c6] at H
    exact absurd H (by simp)
   rw [if_pos c6] at H
   have c6b0 : decide (0 ≤ x10_1) = true := decide_eq_true c6
   clear c6
   by_cases c7 : x10_1 < (l0_0.length : Int)
   rotate_left
   ·rw [if_neg c7] at H
    exact absurd H (by simp)
   rw [if_pos c7] at H
   have c7b0 : decide (x10_1 < (l0_0.length : Int)) = true := decide_eq_true c7
   clear c7
   by_cases c8 : ((rd_T71 l0_0 x10_1).f0).toList = a1.toList
   ·rw [if_pos c8] at H
    have c8b0 : (((rd_T71 l0_0 x10_1).f0).toList == a1.toList) = true := beq_iff_eq.mpr c8
    have c8b1 : (((rd_T71 l0_0 x10_1).f0).toList != a1.toList) = false := bne_eq_false_iff_eq.mpr c8
    clear c8
    obtain rfl := Option.some.inj H
    have p176 : 0 ≤ (x10_1 : Int) := od_
    have q176 : x10_1 < (l0_0.length : Int) := od_
    obtain ⟨ad176, e176, hx176_0, hx176_1, hx176_2⟩ := at_T71 HR0_0.out x10_1 p176 q176
    cases e176
    replace hx176_0 := hc_ HB hx176_0
    replace hx176_1 := hc_ HB hx176_1
    replace hx176_2 := hc_ HB hx176_2
    replace p176 := eq_true p176
    replace q176 := eq_true q176
    go_wp2_with (first | ((with_reducible refine gd_ 6 ?_); refine bx_ 6 #[.string (⟨#[]⟩ : ByteArray), .string (⟨#[]⟩ : ByteArray), .int .i64 0] 71 ?_; intro gb177 hg w9 hbox hb; have BK177 := a_ (hbox); have GE177 := a_ (bs_1 hg HB GE175); replace HB := hB_ (bl_1 HB GE175) hb; have NB175_177 := nB_ hg BK175; have NB177_175 := nC_ hg BK175; replace BK175 := bB_ BK175 hb; clear hb hbox hg; have hnb10 := NB177_175.out; have hnc10 := NB175_177.out; obtain ⟨hcz11_0, hcz11_1, hcz11_2, hfz11_0, hfz11_1, hfz11_2⟩ := c3_ BK177))
    go_ret
    exact ⟨fz_, bl_2 HB GE175 GE177⟩
   rw [if_neg c8] at H
   have c8b0 : (((rd_T71 l0_0 x10_1).f0).toList == a1.toList) = false := beq_eq_false_iff_ne.mpr c8
   have c8b1 : (((rd_T71 l0_0 x10_1).f0).toList != a1.toList) = true := bne_iff_ne.mpr c8
   have H' := a_ H
   clear H
   have p176 : 0 ≤ (x10_1 : Int) := od_
   have q176 : x10_1 < (l0_0.length : Int) := od_
   obtain ⟨ad176, e176, hx176_0, hx176_1, hx176_2⟩ := at_T71 HR0_0.out x10_1 p176 q176
   cases e176
   replace hx176_0 := hc_ HB hx176_0
   replace hx176_1 := hc_ HB hx176_1
   replace hx176_2 := hc_ HB hx176_2
   replace p176 := eq_true p176
   replace q176 := eq_true q176
   go_wp2_with (first | ((with_reducible refine gd_ 6 ?_); refine bx_ 6 #[.string (⟨#[]⟩ : ByteArray), .string (⟨#[]⟩ : ByteArray), .int .i64 0] 71 ?_; intro gb177 hg w12 hbox hb; have BK177 := a_ (hbox); have GE177 := a_ (bs_1 hg HB GE175); replace HB := hB_ (bl_1 HB GE175) hb; have NB175_177 := nB_ hg BK175; have NB177_175 := nC_ hg BK175; replace BK175 := bB_ BK175 hb; clear hb hbox hg; have hnb13 := NB177_175.out; have hnc13 := NB175_177.out; obtain ⟨hcz14_0, hcz14_1, hcz14_2, hfz14_0, hfz14_1, hfz14_2⟩ := c3_ BK177))
   go_roundg k1
   case measure => have := HK1.out; omega
   case rel => exact ⟨(wrap64 (x10_1 + 1)), fz_, H', ⟨by have := HK1.out; omega⟩, ⟨by refine bq_ ?_; refine blk_far ?_ NB175_177.out _; refine bq_ ?_; refine blk_far ?_ NB175_177.out _; refine bq_ ?_; refine blk_far ?_ NB175_177.out _; refine bq_ ?_; exact BK175.out⟩, ⟨bl_2 HB GE175 GE177⟩⟩
/-! ### gafferref02_Read: function 41 -/
def gafferref02_Read.f (k : Nat) (l0_0 : List (S71)) (a0_1 : Bool) (a0_2 : Int) (a1 : ByteArray) : Option (ByteArray × Int) := (gafferref02_Check.f k l0_0 a0_1 a0_2).bind fun t179 => (if t179 = 0 then (if a0_1 = true then (some ((⟨#[]⟩ : ByteArray), 8)) else ((gafferref02_find.f k l0_0 a0_1 a0_2 a1).bind fun t180 => (if t180 < 0 then (some ((⟨#[]⟩ : ByteArray), 6)) else (if 0 ≤ t180 then (if t180 < (l0_0.length : Int) then (some ((rd_T71 l0_0 t180).f1, 0)) else (none)) else (none))))) else (some ((⟨#[]⟩ : ByteArray), 10)))
theorem gafferref02_Read.mono : ∀ a0 a1 a2 a3 k, LeO (gafferref02_Read.f k a0 a1 a2 a3) (gafferref02_Read.f (k + 1) a0 a1 a2 a3) := by
 intro a0 a1 a2 a3 k
 unfold gafferref02_Read.f
 repeat' with_reducible first | apply gafferref02_Check.mono | apply gafferref02_find.mono | apply LeO.refl | apply LeO.none | apply LeO.ite | refine LeO.bind ?_ (fun _ => ?_)
theorem gafferref02_Read.calls (k : Nat) (A0_0 : Option Addr) (c0_0 : Nat) (l0_0 : List (S71)) (a0_1 : Bool) (a0_2 : Int) (a1 : ByteArray) (r1 : ByteArray) (r2 : Int) (w : World) (hr0_0 : Kd.C k71 w A0_0 l0_0.length l0_0) (hc0_0 : l0_0.length ≤ c0_0) (h : gafferref02_Read.f k l0_0 a0_1 a0_2 a1 = some (r1, r2)) :
  Calls Try.prog 41 #[.agg #[.slice A0_0 l0_0.length c0_0, .bool a0_1, .int .i64 a0_2], .string a1] w fun e w' => e = .returned (.tuple #[.string r1, .int .i64 r2]) ∧ Below w.heap.size w w' := by
 have hu24 := Try.underlying24
 have HR0_0 := a_ hr0_0
 have HC0_0 := a_ hc0_0
 clear hr0_0 hc0_0
 have HB := a_ (Below.refl w.heap.size w)
 have H : ((gafferref02_Check.f k l0_0 a0_1 a0_2).bind fun t179 => (if t179 = 0 then (if a0_1 = true then (some ((⟨#[]⟩ : ByteArray), 8)) else ((gafferref02_find.f k l0_0 a0_1 a0_2 a1).bind fun t180 => (if t180 < 0 then (some ((⟨#[]⟩ : ByteArray), 6)) else (if 0 ≤ t180 then (if t180 < (l0_0.length : Int) then (some ((rd_T71 l0_0 t180).f1, 0)) else (none)) else (none))))) else (some ((⟨#[]⟩ : ByteArray), 10)))) = some (r1, r2) := h
 clear h
 obtain ⟨t179, A30, H⟩ := Option.bind_eq_some_iff.mp H
 try dsimp only at H
 have A3 := a_ A30
 clear A30
 by_cases c4 : t179 = 0
 rotate_left
 ·rw [if_neg c4] at H
  have c4b0 : (t179 == 0) = false := beq_eq_false_iff_ne.mpr c4
  have c4b1 : (t179 != 0) = true := bne_iff_ne.mpr c4
  simp only [Option.some.injEq, Prod.mk.injEq] at H
  obtain ⟨rfl, rfl⟩ := H
  go_enter Try.func41, Try.ntmps41
  go_wp2_with (first | ((with_reducible refine gd_ 2 ?_); refine bx_ 2 #[.slice A0_0 l0_0.length c0_0, .bool a0_1, .int .i64 a0_2] 24 ?_; intro gb178 hg w25 hbox hb; have BK178 := a_ (hbox); have GE178 := a_ (bs_0 hg HB); replace HB := hB_ (bl_ HB) hb; clear hb hbox hg; obtain ⟨hcz26_0, hcz26_1, hcz26_2, hfz26_0, hfz26_1, hfz26_2⟩ := c3_ BK178) | ((with_reducible refine gk_ 46 ?_); refine gl_ (some 8) Try.func46 #[.agg #[.slice A0_0 l0_0.length c0_0, .bool a0_1, .int .i64 a0_2]] ?_; (with_reducible refine (gafferref02_Check.calls k _ _ l0_0 a0_1 a0_2 t179 _ ?side1 ?side2 A3.out).mono ?_); (case side1 => exact cl_ (Kd.C_below HR0_0.out HB.out)); (case side2 => exact HC0_0.out); rintro e w27 ⟨rfl, hb⟩; refine ⟨_, rfl, ?_⟩; replace BK178 := bB_ BK178 hb; replace HB := hB_ (bl_1 HB GE178) hb; (try clear hb)))
  go_ret2
  exact ⟨fz_, bl_1 HB GE178⟩


 rw [if_pos c4] at H
 have c4b0 : (t179 == 0) = true := beq_iff_eq.mpr c4
 have c4b1 : (t179 != 0) = false := bne_eq_false_iff_eq.mpr c4
 clear c4
 by_cases c5 : a0_1 = true
 ·subst c5
  have H1 : (some ((⟨#[]⟩ : ByteArray), 8)) = some (r1, r2) := by rw [if_pos rfl] at H; exact H
  clear H
  have H := H1
  clear H1
  simp only [Option.some.injEq, Prod.mk.injEq] at H
  obtain ⟨rfl, rfl⟩ := H
  go_enter Try.func41, Try.ntmps41
  go_wp2_with (first | ((with_reducible refine gd_ 2 ?_); refine bx_ 2 #[.slice A0_0 l0_0.length c0_0, .bool true, .int .i64 a0_2] 24 ?_; intro gb178 hg w6 hbox hb; have BK178 := a_ (hbox); have GE178 := a_ (bs_0 hg HB); replace HB := hB_ (bl_ HB) hb; clear hb hbox hg; obtain ⟨hcz7_0, hcz7_1, hcz7_2, hfz7_0, hfz7_1, hfz7_2⟩ := c3_ BK178) | ((with_reducible refine gk_ 46 ?_); refine gl_ (some 8) Try.func46 #[.agg #[.slice A0_0 l0_0.length c0_0, .bool true, .int .i64 a0_2]] ?_; (with_reducible refine (gafferref02_Check.calls k _ _ l0_0 true a0_2 t179 _ ?side1 ?side2 A3.out).mono ?_); (case side1 => exact cl_ (Kd.C_below HR0_0.out HB.out)); (case side2 => exact HC0_0.out); rintro e w8 ⟨rfl, hb⟩; refine ⟨_, rfl, ?_⟩; replace BK178 := bB_ BK178 hb; replace HB := hB_ (bl_1 HB GE178) hb; (try clear hb); obtain ⟨hcz9_0, hcz9_1, hcz9_2, hfz9_0, hfz9_1, hfz9_2⟩ := c3_ BK178))
  go_ret2
  exact ⟨fz_, bl_1 HB GE178⟩
 replace c5 := Bool.eq_false_iff.mpr c5
 subst c5
 have H1 : ((gafferref02_find.f k l0_0 false a0_2 a1).bind fun t180 => (if t180 < 0 then (some ((⟨#[]⟩ : ByteArray), 6)) else (if 0 ≤ t180 then (if t180 < (l0_0.length : Int) then (some ((rd_T71 l0_0 t180).f1, 0)) else (none)) else (none)))) = some (r1, r2) := by rw [if_neg (show ¬ (false = true) by decide)] at H; exact H
 clear H
 have H := H1
 clear H1
 obtain ⟨t180, A100, H⟩ := Option.bind_eq_some_iff.mp H
 try dsimp only at H
 have A10 := a_ A100
 clear A100
 by_cases c11 : t180 < 0
 ·rw [if_pos c11] at H
  have c11b0 : decide (t180 < 0) = true := decide_eq_true c11
  clear c11
  simp only [Option.some.injEq, Prod.mk.injEq] at H
  obtain ⟨rfl, rfl⟩ := H
  go_enter Try.func41, Try.ntmps41
  go_wp2_with (first | ((with_reducible refine gd_ 2 ?_); refine bx_ 2 #[.slice A0_0 l0_0.length c0_0, .bool false, .int .i64 a0_2] 24 ?_; intro gb178 hg w12 hbox hb; have BK178 := a_ (hbox); have GE178 := a_ (bs_0 hg HB); replace HB := hB_ (bl_ HB) hb; clear hb hbox hg; obtain ⟨hcz13_0, hcz13_1, hcz13_2, hfz13_0, hfz13_1, hfz13_2⟩ := c3_ BK178) | ((with_reducible refine gk_ 46 ?_); refine gl_ (some 8) Try.func46 #[.agg #[.slice A0_0 l0_0.length c0_0, .bool false, .int .i64 a0_2]] ?_; (with_reducible refine (gafferref02_Check.calls k _ _ l0_0 false a0_2 t179 _ ?side1 ?side2 A3.out).mono ?_); (case side1 => exact cl_ (Kd.C_below HR0_0.out HB.out)); (case side2 => exact HC0_0.out); rintro e w14 ⟨rfl, hb⟩; refine ⟨_, rfl, ?_⟩; replace BK178 := bB_ BK178 hb; replace HB := hB_ (bl_1 HB GE178) hb; (try clear hb); obtain ⟨hcz15_0, hcz15_1, hcz15_2, hfz15_0, hfz15_1, hfz15_2⟩ := c3_ BK178) | ((with_reducible refine gk_ 64 ?_); refine gl_ (some 14) Try.func64 #[.agg #[.slice A0_0 l0_0.length c0_0, .bool false, .int .i64 a0_2], .string a1] ?_; (with_reducible refine (gafferref02_find.calls k _ _ l0_0 false a0_2 a1 t180 _ ?side1 ?side2 A10.out).mono ?_); (case side1 => exact cl_ (Kd.C_below HR0_0.out HB.out)); (case side2 => exact HC0_0.out); rintro e w16 ⟨rfl, hb⟩; refine ⟨_, rfl, ?_⟩; replace BK178 := bB_ BK178 hb; replace HB := hB_ (bl_1 HB GE178) hb; (try clear hb)))
  go_ret2
  exact ⟨fz_, bl_1 HB GE178⟩
 rw [if_neg c11] at H
 have c11b0 : decide (t180 < 0) = false := decide_eq_false c11
 clear c11
 by_cases c17 : 0 ≤ t180
 rotate_left
 ·rw [if_neg c17] at H
  exact absurd H (by simp)
 rw [if_pos c17] at H
 have c17b0 : decide (0 ≤ t180) = true := decide_eq_true c17
 clear c17
 by_cases c18 : t180 < (l0_0.length : Int)
 rotate_left
 ·rw [if_neg c18] at H
  exact absurd H (by simp)
 rw [if_pos c18] at H
 have c18b0 : decide (t180 < (l0_0.length : Int)) = true := decide_eq_true c18
 clear c18
 simp only [Option.some.injEq, Prod.mk.injEq] at H
 obtain ⟨rfl, rfl⟩ := H
 go_enter Try.func41, Try.ntmps41
 go_wp2_with (first | ((with_reducible refine gd_ 2 ?_); refine bx_ 2 #[.slice A0_0 l0_0.length c0_0, .bool false, .int .i64 a0_2] 24 ?_; intro gb178 hg w19 hbox hb; have BK178 := a_ (hbox); have GE178 := a_ (bs_0 hg HB); replace HB := hB_ (bl_ HB) hb; clear hb hbox hg; obtain ⟨hcz20_0, hcz20_1, hcz20_2, hfz20_0, hfz20_1, hfz20_2⟩ := c3_ BK178) | ((with_reducible refine gk_ 46 ?_); refine gl_ (some 8) Try.func46 #[.agg #[.slice A0_0 l0_0.length c0_0, .bool false, .int .i64 a0_2]] ?_; (with_reducible refine (gafferref02_Check.calls k _ _ l0_0 false a0_2 t179 _ ?side1 ?side2 A3.out).mono ?_); (case side1 => exact cl_ (Kd.C_below HR0_0.out HB.out)); (case side2 => exact HC0_0.out); rintro e w21 ⟨rfl, hb⟩; refine ⟨_, rfl, ?_⟩; replace BK178 := bB_ BK178 hb; replace HB := hB_ (bl_1 HB GE178) hb; (try clear hb); obtain ⟨hcz22_0, hcz22_1, hcz22_2, hfz22_0, hfz22_1, hfz22_2⟩ := c3_ BK178) | ((with_reducible refine gk_ 64 ?_); refine gl_ (some 14) Try.func64 #[.agg #[.slice A0_0 l0_0.length c0_0, .bool false, .int .i64 a0_2], .string a1] ?_; (with_reducible refine (gafferref02_find.calls k _ _ l0_0 false a0_2 a1 t180 _ ?side1 ?side2 A10.out).mono ?_); (case side1 => exact cl_ (Kd.C_below HR0_0.out HB.out)); (case side2 => exact HC0_0.out); rintro e w23 ⟨rfl, hb⟩; refine ⟨_, rfl, ?_⟩; replace BK178 := bB_ BK178 hb; replace HB := hB_ (bl_1 HB GE178) hb; (try clear hb); obtain ⟨hcz24_0, hcz24_1, hcz24_2, hfz24_0, hfz24_1, hfz24_2⟩ := c3_ BK178; have p181 : 0 ≤ (t180 : Int) := od_; have q181 : t180 < (l0_0.length : Int) := od_; obtain ⟨ad181, e181, hx181_0, hx181_1, hx181_2⟩ := at_T71 HR0_0.out t180 p181 q181; cases e181; replace hx181_0 := (HB.out.cell (World.block_lt_of_cell? w _ hx181_0)).trans hx181_0; replace hx181_1 := (HB.out.cell (World.block_lt_of_cell? w _ hx181_1)).trans hx181_1; replace hx181_2 := (HB.out.cell (World.block_lt_of_cell? w _ hx181_2)).trans hx181_2; replace p181 := eq_true p181; replace q181 := eq_true q181))
 go_ret2
 exact ⟨fz_, bl_1 HB GE178⟩end Go.Proofs.Ytpigjmjbfpipnaa.PD
