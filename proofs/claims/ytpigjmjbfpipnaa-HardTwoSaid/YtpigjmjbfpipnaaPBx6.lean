-- Written for this claim by a program of this session. Lean checks it.
import Derived.Test.YtpigjmjbfpipnaaPBx0
import Derived.Test.YtpigjmjbfpipnaaPBx3
import Derived.Test.YtpigjmjbfpipnaaPBx4
import Derived.Test.YtpigjmjbfpipnaaPBx5
namespace Go.Proofs.Ytpigjmjbfpipnaa.PB
open Go.RowKit Go.Proofs.YtpigjmjbfpipnaaW.PrintWords Go.Proofs.YtpigjmjbfpipnaaW.PrintLast Go.Proofs.YtpigjmjbfpipnaaW.PrintMore Go.Proofs.Ytpigjmjbfpipnaa.Sh Go.Proofs.Ytpigjmjbfpipnaa.Op
attribute [local go_sem] max2_int min2_int max_two min_two max_three min_three max_four min_four   -- for this text's walks alone
set_option linter.unusedVariables false
set_option linter.unusedSimpArgs false

/-! ### hard_file: function 40 -/
def hard_file.f (k : Nat) (a0_0 : Int) (a0_1 : Int) : Option (ByteArray) := (pack_Number.f k a0_0).bind fun t148 => ((pack_Number.f k (IntKind.u64.wrap (a0_1))).bind fun t149 => (if t148.size + t149.size ≤ 9223372036854775807 then ((pack_Frame.f k (t148 ++ t149)).bind fun bt150 => (some bt150.1)) else (none)))
theorem hard_file.mono : ∀ a0 a1 k, LeO (hard_file.f k a0 a1) (hard_file.f (k + 1) a0 a1) := by
 intro a0 a1 k
 unfold hard_file.f
 repeat' first | (with_reducible first | exact pack_Frame.mono _ _ | exact pack_Number.mono _ _ | exact LeO.refl _ | exact LeO.none _ | refine LeO.ite ?_ ?_ | refine LeO.bind ?_ (fun _ => ?_)) | exact pack_Frame.mono _ _ | exact pack_Number.mono _ _ | exact LeO.none _ | refine LeO.ite ?_ ?_ | refine LeO.bind ?_ (fun _ => ?_)
def hard_file.T1 : Bool × List (List Nat × List Nat) := (true, [([], []), ([0], [0]), ([1], [1]), ([], []), ([3], [3]), ([4], [4]), ([5, 2], [5]), ([2, 6], [2, 6]), ([7, 6], [7]), ([8], [8]), ([9], [9]), ([9], [9]), ([10, 8, 0, 1, 2, 3, 4, 5, 6, 7, 8, 9, 10], [10]), ([11, 12, 0, 1, 2, 3, 4, 5, 6, 7, 8, 9, 10, 11, 12], [11])])
def hard_file.B1 : List Nat := [0, 1, 3, 0, 8, 24, 63, 127, 255, 511, 1023, 1023, 2047, 8191]
theorem hard_file.tab1 : rtab .any (opsOf Try.f40 1) = hard_file.T1 := by kernel_rfl
theorem hard_file.bits1 : waitsOk hard_file.T1.2 hard_file.B1 = true := by kernel_rfl
set_option maxHeartbeats 80000000 in
set_option maxRecDepth 100000 in
theorem hard_file.calls (k : Nat) (a0_0 : Int) (a0_1 : Int) (r : ByteArray) (w : World) (h : hard_file.f k a0_0 a0_1 = some r) :
  Calls Try.prog 40 #[.agg #[.int .u64 a0_0, .int .i64 a0_1]] w fun e w' => e = .returned (.string r) ∧ Below w.heap.size w w' := by
 have hu27 := Try.underlying27
 have HB := Aside0.mk (Below.refl w.heap.size w)
 have H : ((pack_Number.f k a0_0).bind fun t148 => ((pack_Number.f k (IntKind.u64.wrap (a0_1))).bind fun t149 => (if t148.size + t149.size ≤ 9223372036854775807 then ((pack_Frame.f k (t148 ++ t149)).bind fun bt150 => (some bt150.1)) else (none)))) = some r := h
 clear h
 obtain ⟨t148, A20, H⟩ := Option.bind_eq_some_iff.mp H
 try dsimp only at H
 have A2 := Aside0.mk A20
 clear A20
 obtain ⟨t149, A30, H⟩ := Option.bind_eq_some_iff.mp H
 try dsimp only at H
 have A3 := Aside0.mk A30
 clear A30
 by_cases c4 : t148.size + t149.size ≤ 9223372036854775807
 rotate_left
 ·rw [if_neg c4] at H
  exact absurd H (by simp)


 rw [if_pos c4] at H
 have c4b0 := eq_true c4
 have c4b1 : decide (t148.size + t149.size ≤ 9223372036854775807) = true := decide_eq_true c4
 try have c4b2 : (9223372036854775807 < t148.size + t149.size) = False := eq_false (Nat.not_lt.2 c4)
 clear c4
 obtain ⟨⟨t150, t151⟩, A50, H⟩ := Option.bind_eq_some_iff.mp H
 try dsimp only at H
 have A5 := Aside0.mk A50
 clear A50
 obtain rfl := Option.some.inj H
 go_enter Try.func40, Try.ntmps40
 try go_wp2_with (first | ((with_reducible refine gate_dst (N := 1) rfl ?_); refine bx_ 1 #[.int .u64 a0_0, .int .i64 a0_1] 27 ?_; intro gb147 hg w6 hbox hb; have BK147 := Aside0.mk (hbox); have GE147 := Aside0.mk (bs_0 hg HB); replace HB := Aside0.mk (below_step (bl_ HB) hb); clear hb hbox hg))
 have n0_ := Aside0.mk (blk_drew BK147.out)
 have n1_ := Aside0.mk (below_drew1 HB.out)
 clear BK147
 clear HB
 have BK147 := n0_
 have HB := n1_
 clear n0_ n1_
 refine start_ (n := 14) (S := fun w' => w'.cell? ⟨gb147, 0, none⟩ = some (.int .u64 a0_0) ∧ w'.cell? ⟨gb147, 1, none⟩ = some (.int .i64 a0_1)) (ds := []) #[false, false, false, false, false, false, false, false, false, false, false, false, false, false] (by kernel_rfl) rfl rfl ⟨(blk_cell BK147.out 0).trans rfl, (blk_cell BK147.out 1).trans rfl⟩ (fun hHeld => ?_); refine with_tabW hard_file.tab1 hard_file.bits1 (fun HT_ HW_ => ?_)
 generalize w6.drew = w7 at BK147 HB hHeld ⊢
 refine pure_ (i := 0) (N := some 6) (v := ?_) (a' := ?_) #[true, false, false, false, false, false, false, false, false, false, false, false, false, false] rfl rfl (any_of HT_.out (by kernel_rfl)) (fun _ _ _ h => h) (Or.inl ⟨by rfl, ?_⟩) ?_ ?_
 rotate_left
 ·intro w'
  go_simp
  with_reducible rfl
 rotate_left
 ·simp only [Act.put, List.setIfInBounds_toArray, List.set_cons_zero, List.set_cons_succ, i64_w, i32_w]
  rfl
 refine pure_ (i := 3) (N := some 9) (v := ?_) (a' := ?_) #[true, false, false, true, false, false, false, false, false, false, false, false, false, false] rfl rfl (any_of HT_.out (by kernel_rfl)) (fun _ _ _ h => h) (Or.inl ⟨by rfl, ?_⟩) ?_ ?_
 rotate_left
 ·intro w'
  go_simp
  with_reducible rfl
 rotate_left
 ·simp only [Act.put, List.setIfInBounds_toArray, List.set_cons_zero, List.set_cons_succ, i64_w, i32_w]
  rfl
 refine take_ (i := 1) (N := some 7) (v := ?_) (a' := ?_) #[true, true, false, true, false, false, false, false, false, false, false, false, false, false] rfl rfl (take_ofW HT_.out HW_.out (by kernel_rfl)) (fun _ _ _ h => h) (Or.inl ⟨by rfl, ?_⟩) hHeld ?_ ?_
 rotate_left
 ·rintro w' ⟨s0, s1⟩
  go_simp
  with_reducible rfl
 rotate_left
 ·simp only [Act.put, List.setIfInBounds_toArray, List.set_cons_zero, List.set_cons_succ, i64_w, i32_w]
  rfl
 refine take_ (i := 4) (N := some 10) (v := ?_) (a' := ?_) #[true, true, false, true, true, false, false, false, false, false, false, false, false, false] rfl rfl (take_ofW HT_.out HW_.out (by kernel_rfl)) (fun _ _ _ h => h) (Or.inl ⟨by rfl, ?_⟩) hHeld ?_ ?_
 rotate_left
 ·rintro w' ⟨s0, s1⟩
  go_simp
  with_reducible rfl
 rotate_left
 ·simp only [Act.put, List.setIfInBounds_toArray, List.set_cons_zero, List.set_cons_succ, i64_w, i32_w]
  rfl
 refine pure_ (i := 5) (N := some 11) (v := ?_) (a' := ?_) #[true, true, false, true, true, true, false, false, false, false, false, false, false, false] rfl rfl (any_of HT_.out (by kernel_rfl)) (fun _ _ _ h => h) (Or.inl ⟨by rfl, ?_⟩) ?_ ?_
 rotate_left
 ·intro w'
  go_simp
  with_reducible rfl
 rotate_left
 ·simp only [Act.put, List.setIfInBounds_toArray, List.set_cons_zero, List.set_cons_succ, i64_w, i32_w]
  rfl
 refine one_ (i := 2) (N := some 8) #[true, true, true, true, true, true, false, false, false, false, false, false, false, false] rfl rfl (one_of HT_.out (by kernel_rfl)) (by decide) (fun K hK => ?_)
 refine goes_ Try.func63 (by kernel_rfl) rfl #[.int .u64 a0_0] (by rfl) rfl rfl (ar_) ?_
 with_reducible refine (pack_Number.calls k a0_0 t148 _ A2.out).mono ?_
 rintro e w8 ⟨rfl, hb⟩
 refine ⟨_, rfl, ?_⟩
 have n0_ := Aside0.mk (bb_ BK147 hb)
 have n1_ := Aside0.mk (below_step (bl_1 HB GE147) hb)
 clear BK147
 clear HB
 have BK147 := n0_
 have HB := n1_
 clear n0_ n1_
 (try clear hb)
 (try clear hb2)
 (try clear hk)
 (try clear hi)
 refine hK.out _ _ ⟨(blk_cell BK147.out 0).trans rfl, (blk_cell BK147.out 1).trans rfl⟩ (fun hHeld => ?_)
 clear hK K
 refine norm_ (a' := ?_) ?_ ?_
 rotate_left
 ·show Act.put _ (some 8) _ = _
  simp only [Act.put, List.setIfInBounds_toArray, List.set_cons_zero, List.set_cons_succ, i64_w, i32_w]
  rfl
 refine one_ (i := 6) (N := some 12) #[true, true, true, true, true, true, true, false, false, false, false, false, false, false] rfl rfl (one_of HT_.out (by kernel_rfl)) (by decide) (fun K hK => ?_)
 refine goes_ Try.func63 (by kernel_rfl) rfl #[.int .u64 (IntKind.u64.wrap (a0_1))] (by rfl) rfl rfl (ar_) ?_
 with_reducible refine (pack_Number.calls k (IntKind.u64.wrap (a0_1)) t149 _ A3.out).mono ?_
 rintro e w9 ⟨rfl, hb⟩
 refine ⟨_, rfl, ?_⟩
 have n0_ := Aside0.mk (bb_ BK147 hb)
 have n1_ := Aside0.mk (below_step (bl_1 HB GE147) hb)
 clear BK147
 clear HB
 have BK147 := n0_
 have HB := n1_
 clear n0_ n1_
 (try clear hb)
 (try clear hb2)
 (try clear hk)
 (try clear hi)
 refine hK.out _ _ ⟨(blk_cell BK147.out 0).trans rfl, (blk_cell BK147.out 1).trans rfl⟩ (fun hHeld => ?_)
 clear hK K
 refine norm_ (a' := ?_) ?_ ?_
 rotate_left
 ·show Act.put _ (some 12) _ = _
  simp only [Act.put, List.setIfInBounds_toArray, List.set_cons_zero, List.set_cons_succ, i64_w, i32_w]
  rfl
 refine pure_ (i := 7) (N := some 13) (v := ?_) (a' := ?_) #[true, true, true, true, true, true, true, true, false, false, false, false, false, false] rfl rfl (any_of HT_.out (by kernel_rfl)) (fun _ _ _ h => h) (Or.inl ⟨by rfl, ?_⟩) ?_ ?_
 rotate_left
 ·intro w'
  go_simp
  with_reducible rfl
 rotate_left
 ·simp only [Act.put, List.setIfInBounds_toArray, List.set_cons_zero, List.set_cons_succ, i64_w, i32_w]
  rfl
 refine one_ (i := 8) (N := some 14) #[true, true, true, true, true, true, true, true, true, false, false, false, false, false] rfl rfl (one_of HT_.out (by kernel_rfl)) (by decide) (fun K hK => ?_)
 refine goes_ Try.func59 (by kernel_rfl) rfl #[.string (t148 ++ t149)] (by rfl) rfl rfl (ar_) ?_
 with_reducible refine (pack_Frame.calls k (t148 ++ t149) t150 t151 _ A5.out).mono ?_
 rintro e w10 ⟨rfl, hb⟩
 refine ⟨_, rfl, ?_⟩
 have n0_ := Aside0.mk (bb_ BK147 hb)
 have n1_ := Aside0.mk (below_step (bl_1 HB GE147) hb)
 clear BK147
 clear HB
 have BK147 := n0_
 have HB := n1_
 clear n0_ n1_
 (try clear hb)
 (try clear hb2)
 (try clear hk)
 (try clear hi)
 refine hK.out _ _ ⟨(blk_cell BK147.out 0).trans rfl, (blk_cell BK147.out 1).trans rfl⟩ (fun hHeld => ?_)
 clear hK K
 refine norm_ (a' := ?_) ?_ ?_
 rotate_left
 ·show Act.put _ (some 14) _ = _
  simp only [Act.put, List.setIfInBounds_toArray, List.set_cons_zero, List.set_cons_succ, i64_w, i32_w]
  rfl
 refine pure_ (i := 9) (N := some 5) (v := ?_) (a' := ?_) #[true, true, true, true, true, true, true, true, true, true, false, false, false, false] rfl rfl (any_of HT_.out (by kernel_rfl)) (fun _ _ _ h => h) (Or.inl ⟨by rfl, ?_⟩) ?_ ?_
 rotate_left
 ·intro w'
  go_simp
  with_reducible rfl
 rotate_left
 ·simp only [Act.put, List.setIfInBounds_toArray, List.set_cons_zero, List.set_cons_succ, i64_w, i32_w]
  rfl
 refine pure_ (i := 10) (N := some 15) (v := ?_) (a' := ?_) #[true, true, true, true, true, true, true, true, true, true, true, false, false, false] rfl rfl (any_of HT_.out (by kernel_rfl)) (fun _ _ _ h => h) (Or.inl ⟨by rfl, ?_⟩) ?_ ?_
 rotate_left
 ·intro w'
  go_simp
  with_reducible rfl
 rotate_left
 ·simp only [Act.put, List.setIfInBounds_toArray, List.set_cons_zero, List.set_cons_succ, i64_w, i32_w]
  rfl
 refine pure_ (i := 11) (N := some 16) (v := ?_) (a' := ?_) #[true, true, true, true, true, true, true, true, true, true, true, true, false, false] rfl rfl (any_of HT_.out (by kernel_rfl)) (fun _ _ _ h => h) (Or.inl ⟨by rfl, ?_⟩) ?_ ?_
 rotate_left
 ·intro w'
  go_simp
  with_reducible rfl
 rotate_left
 ·simp only [Act.put, List.setIfInBounds_toArray, List.set_cons_zero, List.set_cons_succ, i64_w, i32_w]
  rfl
 refine pure_ (i := 12) (N := some 3) (v := ?_) (a' := ?_) #[true, true, true, true, true, true, true, true, true, true, true, true, true, false] rfl rfl (any_of HT_.out (by kernel_rfl)) (fun _ _ _ h => h) (Or.inl ⟨by rfl, ?_⟩) ?_ ?_
 rotate_left
 ·intro w'
  go_simp
  with_reducible rfl
 rotate_left
 ·simp only [Act.put, List.setIfInBounds_toArray, List.set_cons_zero, List.set_cons_succ, i64_w, i32_w]
  rfl
 refine pure_ (i := 13) (N := some 4) (v := ?_) (a' := ?_) #[true, true, true, true, true, true, true, true, true, true, true, true, true, true] rfl rfl (any_of HT_.out (by kernel_rfl)) (fun _ _ _ h => h) (Or.inl ⟨by rfl, ?_⟩) ?_ ?_
 rotate_left
 ·intro w'
  go_simp
  with_reducible rfl
 rotate_left
 ·simp only [Act.put, List.setIfInBounds_toArray, List.set_cons_zero, List.set_cons_succ, i64_w, i32_w]
  rfl
 refine done_ (done_of HT_.out (by kernel_rfl)) ?_
 try go_wp2
 go_ret
 exact ⟨by first | rfl | (simp; done) | (simp [*]; done), bl_1 HB GE147⟩
/-! ### hard_Load: function 15 -/
def hard_Load.f (k : Nat) (l0_0 : List (S71)) (a0_1 : Bool) (a0_2 : Int) : Option (Int × Int × Int) := (disk_Read.f k l0_0 a0_1 a0_2 (⟨#[104, 97, 114, 100]⟩ : ByteArray)).bind fun bt154 => (if bt154.2 = 0 then ((pack_TakeFrame.f k bt154.1).bind fun bt156 => ((hard_read.f k bt156.1).bind fun bt159 => ((hard_file.f k bt159.1 bt159.2).bind fun t162 => (if t162.toList = bt154.1.toList then (some (bt159.1, bt159.2, 0)) else (some (0, 0, 4)))))) else (if bt154.2 = 6 then (some (0, 0, 0)) else (some (0, 0, bt154.2))))
theorem hard_Load.mono : ∀ a0 a1 a2 k, LeO (hard_Load.f k a0 a1 a2) (hard_Load.f (k + 1) a0 a1 a2) := by
 intro a0 a1 a2 k
 unfold hard_Load.f
 repeat' first | (with_reducible first | exact disk_Read.mono _ _ _ _ _ | exact hard_file.mono _ _ _ | exact hard_read.mono _ _ | exact pack_TakeFrame.mono _ _ | exact LeO.refl _ | exact LeO.none _ | refine LeO.ite ?_ ?_ | refine LeO.bind ?_ (fun _ => ?_)) | exact disk_Read.mono _ _ _ _ _ | exact hard_file.mono _ _ _ | exact hard_read.mono _ _ | exact pack_TakeFrame.mono _ _ | exact LeO.none _ | refine LeO.ite ?_ ?_ | refine LeO.bind ?_ (fun _ => ?_)
set_option maxHeartbeats 80000000 in
set_option maxRecDepth 100000 in
theorem hard_Load.calls (k : Nat) (A0_0 : Option Addr) (c0_0 : Nat) (l0_0 : List (S71)) (a0_1 : Bool) (a0_2 : Int) (r1 : Int) (r2 : Int) (r3 : Int) (w : World) (hr0_0 : Kd.C k71 w A0_0 l0_0.length l0_0) (hc0_0 : l0_0.length ≤ c0_0) (h : hard_Load.f k l0_0 a0_1 a0_2 = some (r1, r2, r3)) :
  Calls Try.prog 15 #[.agg #[.slice A0_0 l0_0.length c0_0, .bool a0_1, .int .i64 a0_2]] w fun e w' => e = .returned (.tuple #[.agg #[.int .u64 r1, .int .i64 r2], .int .i64 r3]) ∧ Below w.heap.size w w' := by
 have hu24 := Try.underlying24
 have hu27 := Try.underlying27
 have HR0_0 := Aside0.mk hr0_0
 have HC0_0 := Aside0.mk hc0_0
 clear hr0_0 hc0_0
 have HB := Aside0.mk (Below.refl w.heap.size w)
 have H : ((disk_Read.f k l0_0 a0_1 a0_2 (⟨#[104, 97, 114, 100]⟩ : ByteArray)).bind fun bt154 => (if bt154.2 = 0 then ((pack_TakeFrame.f k bt154.1).bind fun bt156 => ((hard_read.f k bt156.1).bind fun bt159 => ((hard_file.f k bt159.1 bt159.2).bind fun t162 => (if t162.toList = bt154.1.toList then (some (bt159.1, bt159.2, 0)) else (some (0, 0, 4)))))) else (if bt154.2 = 6 then (some (0, 0, 0)) else (some (0, 0, bt154.2))))) = some (r1, r2, r3) := h
 clear h
 obtain ⟨⟨t154, t155⟩, A20, H⟩ := Option.bind_eq_some_iff.mp H
 try dsimp only at H
 have A2 := Aside0.mk A20
 clear A20
 by_cases c3 : t155 = 0
 rotate_left
 ·rw [if_neg c3] at H
  have c3b0 : (t155 == 0) = false := beq_eq_false_iff_ne.mpr c3
  have c3b1 : (t155 != 0) = true := bne_iff_ne.mpr c3
  by_cases c35 : t155 = 6
  rotate_left
  ·rw [if_neg c35] at H
   have c35b0 : (t155 == 6) = false := beq_eq_false_iff_ne.mpr c35
   have c35b1 : (t155 != 6) = true := bne_iff_ne.mpr c35
   simp only [Option.some.injEq, Prod.mk.injEq] at H
   obtain ⟨rfl, rfl, rfl⟩ := H
   go_enter Try.func15, Try.ntmps15
   go_wp2_with (first | ((with_reducible refine gate_dst (N := 1) rfl ?_); refine bx_ 1 #[.slice A0_0 l0_0.length c0_0, .bool a0_1, .int .i64 a0_2] 24 ?_; intro gb152 hg w42 hbox hb; have BK152 := Aside0.mk (hbox); have GE152 := Aside0.mk (bs_0 hg HB); replace HB := Aside0.mk (below_step (bl_ HB) hb); clear hb hbox hg) | ((with_reducible refine gate_dst (N := 2) rfl ?_); refine bx_ 2 #[.int .u64 0, .int .i64 0] 27 ?_; intro gb153 hg w43 hbox hb; have BK153 := Aside0.mk (hbox); have GE153 := Aside0.mk (bs_1 hg HB GE152); replace HB := Aside0.mk (below_step (bl_1 HB GE152) hb); have NB152_153 := Aside0.mk (nb_ hg BK152); have NB153_152 := Aside0.mk (nc_ hg BK152); replace BK152 := Aside0.mk (bb_ BK152 hb); clear hb hbox hg; have hnb44 := NB152_153.out; have hnc44 := NB153_152.out; obtain ⟨hcz45_0, hcz45_1, hcz45_2, hfz45_0, hfz45_1, hfz45_2⟩ := c3_ BK152) | ((with_reducible refine gate_callee (f := 24) rfl ?_); refine goesL_ (some 12) rfl rfl Try.func24 (by kernel_rfl) rfl #[.agg #[.slice A0_0 l0_0.length c0_0, .bool a0_1, .int .i64 a0_2], .string (⟨#[104, 97, 114, 100]⟩ : ByteArray)] rfl (ar_) ?_; (with_reducible refine (disk_Read.calls k _ _ l0_0 a0_1 a0_2 (⟨#[104, 97, 114, 100]⟩ : ByteArray) t154 t155 _ ?side1 ?side2 A2.out).mono ?_); (case side1 => exact cl_ (Kd.C_below HR0_0.out HB.out)); (case side2 => exact HC0_0.out); rintro e w46 ⟨rfl, hb⟩; refine ⟨_, rfl, ?_⟩; replace BK152 := Aside0.mk (bb_ BK152 hb); replace BK153 := Aside0.mk (bb_ BK153 hb); replace HB := Aside0.mk (below_step (bl_2 HB GE152 GE153) hb); (try clear hb); obtain ⟨hcz47_0, hcz47_1, hfz47_0, hfz47_1⟩ := c2_ BK153))
   refine bodyPost_ret (results_ct rfl _ _ gb153 27 #[.int .u64 0, .int .i64 0] (0, 0) _ rfl (bp_0 BK153) Try.underlying27 rfl (by kernel_rfl)) rfl ?_
   exact ⟨by first | rfl | (simp; done) | (simp [*]; done), bl_2 HB GE152 GE153⟩


  rw [if_pos c35] at H
  have c35b0 : (t155 == 6) = true := beq_iff_eq.mpr c35
  have c35b1 : (t155 != 6) = false := bne_eq_false_iff_eq.mpr c35
  clear c35
  simp only [Option.some.injEq, Prod.mk.injEq] at H
  obtain ⟨rfl, rfl, rfl⟩ := H
  go_enter Try.func15, Try.ntmps15
  go_wp2_with (first | ((with_reducible refine gate_dst (N := 1) rfl ?_); refine bx_ 1 #[.slice A0_0 l0_0.length c0_0, .bool a0_1, .int .i64 a0_2] 24 ?_; intro gb152 hg w36 hbox hb; have BK152 := Aside0.mk (hbox); have GE152 := Aside0.mk (bs_0 hg HB); replace HB := Aside0.mk (below_step (bl_ HB) hb); clear hb hbox hg) | ((with_reducible refine gate_dst (N := 2) rfl ?_); refine bx_ 2 #[.int .u64 0, .int .i64 0] 27 ?_; intro gb153 hg w37 hbox hb; have BK153 := Aside0.mk (hbox); have GE153 := Aside0.mk (bs_1 hg HB GE152); replace HB := Aside0.mk (below_step (bl_1 HB GE152) hb); have NB152_153 := Aside0.mk (nb_ hg BK152); have NB153_152 := Aside0.mk (nc_ hg BK152); replace BK152 := Aside0.mk (bb_ BK152 hb); clear hb hbox hg; have hnb38 := NB152_153.out; have hnc38 := NB153_152.out; obtain ⟨hcz39_0, hcz39_1, hcz39_2, hfz39_0, hfz39_1, hfz39_2⟩ := c3_ BK152) | ((with_reducible refine gate_callee (f := 24) rfl ?_); refine goesL_ (some 12) rfl rfl Try.func24 (by kernel_rfl) rfl #[.agg #[.slice A0_0 l0_0.length c0_0, .bool a0_1, .int .i64 a0_2], .string (⟨#[104, 97, 114, 100]⟩ : ByteArray)] rfl (ar_) ?_; (with_reducible refine (disk_Read.calls k _ _ l0_0 a0_1 a0_2 (⟨#[104, 97, 114, 100]⟩ : ByteArray) t154 t155 _ ?side1 ?side2 A2.out).mono ?_); (case side1 => exact cl_ (Kd.C_below HR0_0.out HB.out)); (case side2 => exact HC0_0.out); rintro e w40 ⟨rfl, hb⟩; refine ⟨_, rfl, ?_⟩; replace BK152 := Aside0.mk (bb_ BK152 hb); replace BK153 := Aside0.mk (bb_ BK153 hb); replace HB := Aside0.mk (below_step (bl_2 HB GE152 GE153) hb); (try clear hb); obtain ⟨hcz41_0, hcz41_1, hfz41_0, hfz41_1⟩ := c2_ BK153))
  refine bodyPost_ret (results_ct rfl _ _ gb153 27 #[.int .u64 0, .int .i64 0] (0, 0) _ rfl (bp_0 BK153) Try.underlying27 rfl (by kernel_rfl)) rfl ?_
  exact ⟨by first | rfl | (simp; done) | (simp [*]; done), bl_2 HB GE152 GE153⟩
 rw [if_pos c3] at H
 have c3b0 : (t155 == 0) = true := beq_iff_eq.mpr c3
 have c3b1 : (t155 != 0) = false := bne_eq_false_iff_eq.mpr c3
 clear c3
 obtain ⟨⟨t156, t157, t158⟩, A40, H⟩ := Option.bind_eq_some_iff.mp H
 try dsimp only at H
 have A4 := Aside0.mk A40
 clear A40
 obtain ⟨⟨t159, t160⟩, A50, H⟩ := Option.bind_eq_some_iff.mp H
 try dsimp only at H
 have A5 := Aside0.mk A50
 clear A50
 obtain ⟨t162, A60, H⟩ := Option.bind_eq_some_iff.mp H
 try dsimp only at H
 have A6 := Aside0.mk A60
 clear A60
 by_cases c7 : t162.toList = t154.toList
 rotate_left
 ·rw [if_neg c7] at H
  have c7b0 : (t162.toList == t154.toList) = false := beq_eq_false_iff_ne.mpr c7
  have c7b1 : (t162.toList != t154.toList) = true := bne_iff_ne.mpr c7
  simp only [Option.some.injEq, Prod.mk.injEq] at H
  obtain ⟨rfl, rfl, rfl⟩ := H
  go_enter Try.func15, Try.ntmps15
  go_wp2_with (first | ((with_reducible refine gate_dst (N := 1) rfl ?_); refine bx_ 1 #[.slice A0_0 l0_0.length c0_0, .bool a0_1, .int .i64 a0_2] 24 ?_; intro gb152 hg w22 hbox hb; have BK152 := Aside0.mk (hbox); have GE152 := Aside0.mk (bs_0 hg HB); replace HB := Aside0.mk (below_step (bl_ HB) hb); clear hb hbox hg) | ((with_reducible refine gate_dst (N := 2) rfl ?_); refine bx_ 2 #[.int .u64 0, .int .i64 0] 27 ?_; intro gb153 hg w23 hbox hb; have BK153 := Aside0.mk (hbox); have GE153 := Aside0.mk (bs_1 hg HB GE152); replace HB := Aside0.mk (below_step (bl_1 HB GE152) hb); have NB152_153 := Aside0.mk (nb_ hg BK152); have NB153_152 := Aside0.mk (nc_ hg BK152); replace BK152 := Aside0.mk (bb_ BK152 hb); clear hb hbox hg; have hnb24 := NB152_153.out; have hnc24 := NB153_152.out; obtain ⟨hcz25_0, hcz25_1, hcz25_2, hfz25_0, hfz25_1, hfz25_2⟩ := c3_ BK152) | ((with_reducible refine gate_callee (f := 24) rfl ?_); refine goesL_ (some 12) rfl rfl Try.func24 (by kernel_rfl) rfl #[.agg #[.slice A0_0 l0_0.length c0_0, .bool a0_1, .int .i64 a0_2], .string (⟨#[104, 97, 114, 100]⟩ : ByteArray)] rfl (ar_) ?_; (with_reducible refine (disk_Read.calls k _ _ l0_0 a0_1 a0_2 (⟨#[104, 97, 114, 100]⟩ : ByteArray) t154 t155 _ ?side1 ?side2 A2.out).mono ?_); (case side1 => exact cl_ (Kd.C_below HR0_0.out HB.out)); (case side2 => exact HC0_0.out); rintro e w26 ⟨rfl, hb⟩; refine ⟨_, rfl, ?_⟩; replace BK152 := Aside0.mk (bb_ BK152 hb); replace BK153 := Aside0.mk (bb_ BK153 hb); replace HB := Aside0.mk (below_step (bl_2 HB GE152 GE153) hb); (try clear hb)) | ((with_reducible refine gate_callee (f := 38) rfl ?_); refine goesL_ (some 25) rfl rfl Try.func38 (by kernel_rfl) rfl #[.string t154] rfl (ar_) ?_; (with_reducible refine (pack_TakeFrame.calls k t154 t156 t157 t158 _ A4.out).mono ?_); rintro e w27 ⟨rfl, hb⟩; refine ⟨_, rfl, ?_⟩; replace BK152 := Aside0.mk (bb_ BK152 hb); replace BK153 := Aside0.mk (bb_ BK153 hb); replace HB := Aside0.mk (below_step (bl_2 HB GE152 GE153) hb); (try clear hb)) | ((with_reducible refine gate_callee (f := 39) rfl ?_); refine goesL_ (some 30) rfl rfl Try.func39 (by kernel_rfl) rfl #[.string t156] rfl (ar_) ?_; (with_reducible refine (hard_read.calls k t156 t159 t160 _ A5.out).mono ?_); rintro e w28 ⟨rfl, hb⟩; refine ⟨_, rfl, ?_⟩; replace BK152 := Aside0.mk (bb_ BK152 hb); replace BK153 := Aside0.mk (bb_ BK153 hb); replace HB := Aside0.mk (below_step (bl_2 HB GE152 GE153) hb); (try clear hb)) | ((with_reducible refine gate_dst (N := 9) rfl ?_); refine bx_ 9 #[.int .u64 0, .int .i64 0] 27 ?_; intro gb161 hg w29 hbox hb; have BK161 := Aside0.mk (hbox); have GE161 := Aside0.mk (bs_2 hg HB GE152 GE153); replace HB := Aside0.mk (below_step (bl_2 HB GE152 GE153) hb); have NB152_161 := Aside0.mk (nb_ hg BK152); have NB161_152 := Aside0.mk (nc_ hg BK152); replace BK152 := Aside0.mk (bb_ BK152 hb); have NB153_161 := Aside0.mk (nb_ hg BK153); have NB161_153 := Aside0.mk (nc_ hg BK153); replace BK153 := Aside0.mk (bb_ BK153 hb); clear hb hbox hg; have hnb30 := NB161_152.out; have hnc30 := NB152_161.out; have hnb31 := NB161_153.out; have hnc31 := NB153_161.out; obtain ⟨hcz32_0, hcz32_1, hfz32_0, hfz32_1⟩ := c2_ BK161) | ((with_reducible refine gate_callee (f := 40) rfl ?_); refine goesL_ (some 32) rfl rfl Try.func40 (by kernel_rfl) rfl #[.agg #[.int .u64 t159, .int .i64 t160]] rfl (ar_) ?_; (with_reducible refine (hard_file.calls k t159 t160 t162 _ A6.out).mono ?_); rintro e w33 ⟨rfl, hb⟩; refine ⟨_, rfl, ?_⟩; replace BK152 := Aside0.mk (blk_below (g := gb152) (o := .cells #[.slice A0_0 l0_0.length c0_0, .bool a0_1, .int .i64 a0_2] 24 (0, 0)) (bp_1 BK152 NB152_161) hb); replace BK153 := Aside0.mk (blk_below (g := gb153) (o := .cells #[.int .u64 0, .int .i64 0] 27 (0, 0)) (bp_1 BK153 NB153_161) hb); replace BK161 := Aside0.mk (blk_below (g := gb161) (o := .cells #[.int .u64 t159, .int .i64 t160] 27 (0, 0)) (bp_0 BK161) hb); replace HB := Aside0.mk (below_step (bl_3 HB GE152 GE153 GE161) hb); (try clear hb); obtain ⟨hcz34_0, hcz34_1, hfz34_0, hfz34_1⟩ := c2_ BK153))
  refine bodyPost_ret (results_ct rfl _ _ gb153 27 #[.int .u64 0, .int .i64 0] (0, 0) _ rfl (bp_0 BK153) Try.underlying27 rfl (by kernel_rfl)) rfl ?_
  exact ⟨by first | rfl | (simp; done) | (simp [*]; done), bl_3 HB GE152 GE153 GE161⟩
 rw [if_pos c7] at H
 have c7b0 : (t162.toList == t154.toList) = true := beq_iff_eq.mpr c7
 have c7b1 : (t162.toList != t154.toList) = false := bne_eq_false_iff_eq.mpr c7
 clear c7
 simp only [Option.some.injEq, Prod.mk.injEq] at H
 obtain ⟨rfl, rfl, rfl⟩ := H
 go_enter Try.func15, Try.ntmps15
 go_wp2_with (first | ((with_reducible refine gate_dst (N := 1) rfl ?_); refine bx_ 1 #[.slice A0_0 l0_0.length c0_0, .bool a0_1, .int .i64 a0_2] 24 ?_; intro gb152 hg w8 hbox hb; have BK152 := Aside0.mk (hbox); have GE152 := Aside0.mk (bs_0 hg HB); replace HB := Aside0.mk (below_step (bl_ HB) hb); clear hb hbox hg) | ((with_reducible refine gate_dst (N := 2) rfl ?_); refine bx_ 2 #[.int .u64 0, .int .i64 0] 27 ?_; intro gb153 hg w9 hbox hb; have BK153 := Aside0.mk (hbox); have GE153 := Aside0.mk (bs_1 hg HB GE152); replace HB := Aside0.mk (below_step (bl_1 HB GE152) hb); have NB152_153 := Aside0.mk (nb_ hg BK152); have NB153_152 := Aside0.mk (nc_ hg BK152); replace BK152 := Aside0.mk (bb_ BK152 hb); clear hb hbox hg; have hnb10 := NB152_153.out; have hnc10 := NB153_152.out; obtain ⟨hcz11_0, hcz11_1, hcz11_2, hfz11_0, hfz11_1, hfz11_2⟩ := c3_ BK152) | ((with_reducible refine gate_callee (f := 24) rfl ?_); refine goesL_ (some 12) rfl rfl Try.func24 (by kernel_rfl) rfl #[.agg #[.slice A0_0 l0_0.length c0_0, .bool a0_1, .int .i64 a0_2], .string (⟨#[104, 97, 114, 100]⟩ : ByteArray)] rfl (ar_) ?_; (with_reducible refine (disk_Read.calls k _ _ l0_0 a0_1 a0_2 (⟨#[104, 97, 114, 100]⟩ : ByteArray) t154 t155 _ ?side1 ?side2 A2.out).mono ?_); (case side1 => exact cl_ (Kd.C_below HR0_0.out HB.out)); (case side2 => exact HC0_0.out); rintro e w12 ⟨rfl, hb⟩; refine ⟨_, rfl, ?_⟩; replace BK152 := Aside0.mk (bb_ BK152 hb); replace BK153 := Aside0.mk (bb_ BK153 hb); replace HB := Aside0.mk (below_step (bl_2 HB GE152 GE153) hb); (try clear hb)) | ((with_reducible refine gate_callee (f := 38) rfl ?_); refine goesL_ (some 25) rfl rfl Try.func38 (by kernel_rfl) rfl #[.string t154] rfl (ar_) ?_; (with_reducible refine (pack_TakeFrame.calls k t154 t156 t157 t158 _ A4.out).mono ?_); rintro e w13 ⟨rfl, hb⟩; refine ⟨_, rfl, ?_⟩; replace BK152 := Aside0.mk (bb_ BK152 hb); replace BK153 := Aside0.mk (bb_ BK153 hb); replace HB := Aside0.mk (below_step (bl_2 HB GE152 GE153) hb); (try clear hb)) | ((with_reducible refine gate_callee (f := 39) rfl ?_); refine goesL_ (some 30) rfl rfl Try.func39 (by kernel_rfl) rfl #[.string t156] rfl (ar_) ?_; (with_reducible refine (hard_read.calls k t156 t159 t160 _ A5.out).mono ?_); rintro e w14 ⟨rfl, hb⟩; refine ⟨_, rfl, ?_⟩; replace BK152 := Aside0.mk (bb_ BK152 hb); replace BK153 := Aside0.mk (bb_ BK153 hb); replace HB := Aside0.mk (below_step (bl_2 HB GE152 GE153) hb); (try clear hb)) | ((with_reducible refine gate_dst (N := 9) rfl ?_); refine bx_ 9 #[.int .u64 0, .int .i64 0] 27 ?_; intro gb161 hg w15 hbox hb; have BK161 := Aside0.mk (hbox); have GE161 := Aside0.mk (bs_2 hg HB GE152 GE153); replace HB := Aside0.mk (below_step (bl_2 HB GE152 GE153) hb); have NB152_161 := Aside0.mk (nb_ hg BK152); have NB161_152 := Aside0.mk (nc_ hg BK152); replace BK152 := Aside0.mk (bb_ BK152 hb); have NB153_161 := Aside0.mk (nb_ hg BK153); have NB161_153 := Aside0.mk (nc_ hg BK153); replace BK153 := Aside0.mk (bb_ BK153 hb); clear hb hbox hg; have hnb16 := NB161_152.out; have hnc16 := NB152_161.out; have hnb17 := NB161_153.out; have hnc17 := NB153_161.out; obtain ⟨hcz18_0, hcz18_1, hfz18_0, hfz18_1⟩ := c2_ BK161) | ((with_reducible refine gate_callee (f := 40) rfl ?_); refine goesL_ (some 32) rfl rfl Try.func40 (by kernel_rfl) rfl #[.agg #[.int .u64 t159, .int .i64 t160]] rfl (ar_) ?_; (with_reducible refine (hard_file.calls k t159 t160 t162 _ A6.out).mono ?_); rintro e w19 ⟨rfl, hb⟩; refine ⟨_, rfl, ?_⟩; replace BK152 := Aside0.mk (blk_below (g := gb152) (o := .cells #[.slice A0_0 l0_0.length c0_0, .bool a0_1, .int .i64 a0_2] 24 (0, 0)) (bp_1 BK152 NB152_161) hb); replace BK153 := Aside0.mk (blk_below (g := gb153) (o := .cells #[.int .u64 0, .int .i64 0] 27 (0, 0)) (bp_1 BK153 NB153_161) hb); replace BK161 := Aside0.mk (blk_below (g := gb161) (o := .cells #[.int .u64 t159, .int .i64 t160] 27 (0, 0)) (bp_0 BK161) hb); replace HB := Aside0.mk (below_step (bl_3 HB GE152 GE153 GE161) hb); (try clear hb); obtain ⟨hcz20_0, hcz20_1, hfz20_0, hfz20_1⟩ := c2_ BK161; obtain ⟨hcz21_0, hcz21_1, hfz21_0, hfz21_1⟩ := c2_ BK153))
 refine bodyPost_ret (results_ct rfl _ _ gb153 27 #[.int .u64 t159, .int .i64 t160] (0, 0) _ rfl (bp_0 BK153) Try.underlying27 rfl (by kernel_rfl)) rfl ?_
 exact ⟨by first | rfl | (simp; done) | (simp [*]; done), bl_3 HB GE152 GE153 GE161⟩
/-! ### hard_Check: function 21 -/
def hard_Check.f (a0_0 : Int) (a0_1 : Int) : Option (Int) := if a0_1 < 0 then (some 1) else (if a0_1 > 7 then (some 1) else (some 0))
set_option maxHeartbeats 80000000 in
set_option maxRecDepth 100000 in
theorem hard_Check.calls (a0_0 : Int) (a0_1 : Int) (r : Int) (w : World) (h : hard_Check.f a0_0 a0_1 = some r) :
  Calls Try.prog 21 #[.agg #[.int .u64 a0_0, .int .i64 a0_1]] w fun e w' => e = .returned (.int .i64 r) ∧ Below w.heap.size w w' := by
 have hu27 := Try.underlying27
 have HB := Aside0.mk (Below.refl w.heap.size w)
 have H : (if a0_1 < 0 then (some 1) else (if a0_1 > 7 then (some 1) else (some 0))) = some r := h
 clear h
 by_cases c2 : a0_1 < 0
 ·rw [if_pos c2] at H
  have c2b0 : decide (a0_1 < 0) = true := decide_eq_true c2
  clear c2
  obtain rfl := Option.some.inj H
  go_enter Try.func21, Try.ntmps21
  go_wp2_with (first | ((with_reducible refine gate_dst (N := 1) rfl ?_); refine bx_ 1 #[.int .u64 a0_0, .int .i64 a0_1] 27 ?_; intro gb163 hg w3 hbox hb; have BK163 := Aside0.mk (hbox); have GE163 := Aside0.mk (bs_0 hg HB); replace HB := Aside0.mk (below_step (bl_ HB) hb); clear hb hbox hg; obtain ⟨hcz4_0, hcz4_1, hfz4_0, hfz4_1⟩ := c2_ BK163))
  go_ret
  exact ⟨by first | rfl | (simp; done) | (simp [*]; done), bl_1 HB GE163⟩
 rw [if_neg c2] at H
 have c2b0 : decide (a0_1 < 0) = false := decide_eq_false c2
 clear c2
 by_cases c5 : a0_1 > 7
 ·rw [if_pos c5] at H
  have c5b0 : decide (7 < a0_1) = true := decide_eq_true c5
  clear c5
  obtain rfl := Option.some.inj H
  go_enter Try.func21, Try.ntmps21
  go_wp2_with (first | ((with_reducible refine gate_dst (N := 1) rfl ?_); refine bx_ 1 #[.int .u64 a0_0, .int .i64 a0_1] 27 ?_; intro gb163 hg w6 hbox hb; have BK163 := Aside0.mk (hbox); have GE163 := Aside0.mk (bs_0 hg HB); replace HB := Aside0.mk (below_step (bl_ HB) hb); clear hb hbox hg; obtain ⟨hcz7_0, hcz7_1, hfz7_0, hfz7_1⟩ := c2_ BK163))
  go_ret
  exact ⟨by first | rfl | (simp; done) | (simp [*]; done), bl_1 HB GE163⟩
 rw [if_neg c5] at H
 have c5b0 : decide (7 < a0_1) = false := decide_eq_false c5
 clear c5
 obtain rfl := Option.some.inj H
 go_enter Try.func21, Try.ntmps21
 go_wp2_with (first | ((with_reducible refine gate_dst (N := 1) rfl ?_); refine bx_ 1 #[.int .u64 a0_0, .int .i64 a0_1] 27 ?_; intro gb163 hg w8 hbox hb; have BK163 := Aside0.mk (hbox); have GE163 := Aside0.mk (bs_0 hg HB); replace HB := Aside0.mk (below_step (bl_ HB) hb); clear hb hbox hg; obtain ⟨hcz9_0, hcz9_1, hfz9_0, hfz9_1⟩ := c2_ BK163))
 go_ret
 exact ⟨by first | rfl | (simp; done) | (simp [*]; done), bl_1 HB GE163⟩

/-! ### api_File_48: function 48 -/
def api_File_48.f (l0 : List (S71)) : Option ((List (S71))) := (some (([] : List (S71)) : List (S71))).bind fun y164 => (if y164.length + l0.length < 3518437208883 then (some (y164 ++ l0)) else (none))
set_option maxHeartbeats 80000000 in
set_option maxRecDepth 100000 in
theorem api_File_48.calls_ (A0 : Option Addr) (hA_ : A0.isNone = false) (c0 : Nat) (l0 : List (S71)) (r : List (S71)) (w : World) (hr0 : Kd.C k71 w A0 l0.length l0) (hc0 : l0.length ≤ c0) (h : api_File_48.f l0 = some r) :
  Calls Try.prog 48 #[.slice A0 l0.length c0] w fun e w' => ∃ v0_ : Value, e = .returned (v0_) ∧ Kd.R k71 71 w' w.heap.size (fun _ => True) v0_ r ∧ Below w.heap.size w w' := by
 have HR0 := Aside0.mk hr0
 have HC0 := Aside0.mk hc0
 clear hr0 hc0
 have q_ : ∀ (w : World) (n c n' c' : Nat), (binOp .eql 22 (.slice A0 n c) (.slice none n' c')).run Try.prog w = .ok (.bool false) w := fun w n c n' c' => by rw [Lib.run_eql_slice_nil w _ _ A0 n c n' c' Try.underlying22, hA_]
 have HB := Aside0.mk (Below.refl w.heap.size w)
 have H : ((some (([] : List (S71)) : List (S71))).bind fun y164 => (if y164.length + l0.length < 3518437208883 then (some (y164 ++ l0)) else (none))) = some r := h
 clear h
 obtain ⟨y164, hy164⟩ : ∃ y_ : List (S71), y_ = (([] : List (S71))) := ⟨_, rfl⟩
 replace H : (if y164.length + l0.length < 3518437208883 then (some (y164 ++ l0)) else (none)) = some r := by first | (rw [hy164]; with_reducible exact H) | (have H2_ := (Option.bind_some _ _).symm.trans H; rw [hy164]; with_reducible exact H2_) | (have H2_ := (Option.bind_some _ _).symm.trans H; with_reducible exact H2_) | with_reducible exact H | (rw [hy164]; exact H) | exact H
 have Ny164 := Aside0.mk hy164
 clear hy164
 by_cases c2 : y164.length + l0.length < 3518437208883
 rotate_left
 ·rw [if_neg c2] at H
  exact absurd H (by simp)
 rw [if_pos c2] at H
 have LMc2 := Aside0.mk c2
 clear c2
 obtain ⟨y167, hy167⟩ : ∃ y_ : List (S71), y_ = (y164 ++ l0) := ⟨_, rfl⟩
 replace H : (some y167) = some r := by first | (rw [hy167]; with_reducible exact H) | (have H2_ := (Option.bind_some _ _).symm.trans H; rw [hy167]; with_reducible exact H2_) | (have H2_ := (Option.bind_some _ _).symm.trans H; with_reducible exact H2_) | with_reducible exact H | (rw [hy167]; exact H) | exact H
 have Ny167 := Aside0.mk hy167
 clear hy167
 obtain rfl := Option.some.inj H
 go_enter Try.func48, Try.ntmps48
 go_wp2_with (first | ((with_reducible refine gate_dst (N := 5) rfl ?_); refine Kd.R_lit k71 _ 71 ?hg (N := 5) ?hd (xs := ([] : List (S71))) (inner := []) (ok := fun _ => True) (okp := fun _ => True) ?hr ?hp (fun _ hk => hk) trivial (Below.refl _ _) (Nat.le_refl _) (by simp) ?_; (case hd => rfl); (case hg => rfl); (case hr => first | (go_simp; done) | (go_simp; rfl)); (case hp => exact (Reps.none _ _)); intro v165 w3 ho4 hb hg_ hnew_; clear hg_ hnew_; (first | rw [← Ny164.out] at ho4 | (simp only [Int.reduceToNat] at ho4; rw [← Ny164.out] at ho4)); have HO166 := Aside0.mk (Kd.R_lower ho4 (below_size (bl_ HB))); replace HB := Aside0.mk (below_step (bl_ HB) hb); clear hb ho4) | ((with_reducible refine gate_builtin (b := .append) (xs := #[.tmp 5, .tmp 6]) rfl ?_); at_builtin; refine Kd.R_append_rows k71 (w0 := w) w.heap.size rfl (.tmp 5) (.tmp 6) 22 71 (.agg #[(.string ⟨#[]⟩), (.string ⟨#[]⟩), (.int .i64 0)]) 40 rfl Try.underlying22 info71 rfl (by decide) (by omega) v165 y164 l0 _ _ _ (fun _ => True) (fun _ => False) rfl rfl ?aO ?aR (fun _ _ h => h) (fun _ h => h.elim) ?aF ?aB ?aS ?aL ?_; (case aR => exact cl_ (Kd.C_below HR0.out HB.out)); (case aB => exact (bl_ HB)); (case aF => exact (fun _ _ => trivial)); (case aO => exact (by (with_reducible repeat (first | apply Kd.R_alloc | apply Kd.R_drewN | apply Kd.R_drew)); exact HO166.out)); (case aS => exact (below_size (bl_ HB))); (case aL => have := LMc2.out; omega); intro v168 w5 ho hb hg hat; rw [← Ny167.out] at ho; replace HB := Aside0.mk (hb); have HO169 := Aside0.mk (ho); clear HO166; clear ho hb hg hat))
 go_ret
 exact ⟨_, by first | rfl | (simp; done) | (simp [*]; done), by (with_reducible repeat (first | apply Kd.R_alloc | apply Kd.R_drewN | apply Kd.R_drew)); exact HO169.out, bl_ HB⟩
set_option maxRecDepth 100000 in
theorem api_File_48.calls (A0 : Option Addr) (c0 : Nat) (l0 : List (S71)) (r : List (S71)) (w : World) (hr0 : Kd.C k71 w A0 l0.length l0) (hc0 : l0.length ≤ c0) (h : api_File_48.f l0 = some r) :
  Calls Try.prog 48 #[.slice A0 l0.length c0] w fun e w' => ∃ v0_ : Value, e = .returned (v0_) ∧ Kd.R k71 71 w' w.heap.size (fun _ => True) v0_ r ∧ Below w.heap.size w w' := by
  cases A0 with
  | some a => exact api_File_48.calls_ _ rfl _ _ _ _ hr0 hc0 h
  | none =>
    have hl : l0 = [] := by
      cases l0 with
      | nil => rfl
      | cons x l0 => obtain ⟨_, _, hx⟩ := hr0; obtain ⟨a, ha, _⟩ := hx (by simp); cases ha
    subst hl
    have hr : r = [] := by simpa [api_File_48.f, eq_comm] using h
    subst hr
    have q_ : ∀ (w : World) (n c n' c' : Nat), (binOp .eql 22 (.slice none n c) (.slice none n' c')).run Try.prog w = .ok (.bool true) w := fun w n c n' c' => by rw [Lib.run_eql_slice_nil w _ _ none n c n' c' Try.underlying22]; rfl
    go_enter Try.func48, Try.ntmps48
    go_wp2
    go_ret
    exact ⟨_, rfl, Kd.R_nil _ _ _ _ _, Below.refl _ _⟩

/-! ### disk_named: function 111 -/
def disk_named.f (a0 : ByteArray) : Option (Bool) := if a0.toList = ([] : List UInt8) then (some false) else (some (decide ((a0.size : Int) ≤ 32)))
set_option maxHeartbeats 80000000 in
set_option maxRecDepth 100000 in
theorem disk_named.calls (a0 : ByteArray) (r : Bool) (w : World) (h : disk_named.f a0 = some r) :
  Calls Try.prog 111 #[.string a0] w fun e w' => e = .returned (.bool r) ∧ Drawn0 w w' := by
 have H : (if a0.toList = ([] : List UInt8) then (some false) else (some (decide ((a0.size : Int) ≤ 32)))) = some r := h
 clear h
 by_cases c2 : a0.toList = ([] : List UInt8)
 rotate_left
 ·rw [if_neg c2] at H
  have c2b0 : (a0.toList == ([] : List UInt8)) = false := beq_eq_false_iff_ne.mpr c2
  have c2b1 : (a0.toList != ([] : List UInt8)) = true := bne_iff_ne.mpr c2
  obtain rfl := Option.some.inj H
  go_enter Try.func111, Try.ntmps111
  go_wp2
  go_ret
  exact ⟨by first | rfl | (simp; done) | (simp [*]; done), dr_⟩


 rw [if_pos c2] at H
 have c2b0 : (a0.toList == ([] : List UInt8)) = true := beq_iff_eq.mpr c2
 have c2b1 : (a0.toList != ([] : List UInt8)) = false := bne_eq_false_iff_eq.mpr c2
 clear c2
 obtain rfl := Option.some.inj H
 go_enter Try.func111, Try.ntmps111
 go_wp2
 go_ret
 exact ⟨by first | rfl | (simp; done) | (simp [*]; done), dr_⟩end Go.Proofs.Ytpigjmjbfpipnaa.PB
