-- Written for this claim by a program of this session. Lean checks it.
import Derived.Test.YtpigjmjbfpipnaaPEx0
import Derived.Test.YtpigjmjbfpipnaaPEx2
import Derived.Test.YtpigjmjbfpipnaaPEx4
import Derived.Test.YtpigjmjbfpipnaaPEx5
import Derived.Test.YtpigjmjbfpipnaaPEx6
namespace Go.Proofs.Ytpigjmjbfpipnaa.PE
open Go.RowKit Go.Proofs.YtpigjmjbfpipnaaW.PrintWords Go.Proofs.YtpigjmjbfpipnaaW.PrintLast Go.Proofs.YtpigjmjbfpipnaaW.PrintMore Go.Proofs.Ytpigjmjbfpipnaa.Sh Go.Proofs.Ytpigjmjbfpipnaa.Op
attribute [local go_sem] max2_int min2_int max_two min_two max_three min_three max_four min_four   -- for this text's walks alone
set_option linter.unusedVariables false
set_option maxHeartbeats 80000000
set_option maxRecDepth 100000
set_option linter.unusedSimpArgs false

/-! ### snap_Decode: function 27 -/
def snap_Decode.f (k : Nat) (a0 : ByteArray) : Option (Int × Int × List Int × ByteArray × Int) := (snap_Taker_Snap.f k a0 false).bind fun bt190 => (if bt190.2.2.2.2.2 = true then (some (0, 0, ([] : List Int), (⟨#[]⟩ : ByteArray), 4)) else (if bt190.2.2.2.2.1.toList = ([] : List UInt8) then (some (bt190.1, bt190.2.1, bt190.2.2.1, bt190.2.2.2.1, 0)) else (some (0, 0, ([] : List Int), (⟨#[]⟩ : ByteArray), 4))))
theorem snap_Decode.mono : ∀ a0 k, LeO (snap_Decode.f k a0) (snap_Decode.f (k + 1) a0) := by
 intro a0 k
 unfold snap_Decode.f
 repeat' with_reducible first | exact snap_Taker_Snap.mono _ _ _ | exact LeO.refl _ | exact LeO.none _ | refine LeO.ite ?_ ?_ | refine LeO.bind ?_ (fun _ => ?_)
theorem snap_Decode.calls (k : Nat) (a0 : ByteArray) (r1 : Int) (r2 : Int) (r3 : List Int) (r4 : ByteArray) (r5 : Int) (w : World) (h : snap_Decode.f k a0 = some (r1, r2, r3, r4, r5)) :
  Calls Try.prog 27 #[.string a0] w fun e w' => ∃ v2_ : Value, e = .returned (.tuple #[.agg #[.int .u64 r1, .int .u64 r2, v2_, .string r4], .int .i64 r5]) ∧ Kd.R (Kd.int .i64) 3 w' w.heap.size (fun _ => True) v2_ r3 ∧ Below w.heap.size w w' := by
 have hu48 := Try.underlying48
 have hu79 := Try.underlying79
 have hu81 := Try.underlying81
 have HB := a_ (Below.refl w.heap.size w)
 have H : ((snap_Taker_Snap.f k a0 false).bind fun bt190 => (if bt190.2.2.2.2.2 = true then (some (0, 0, ([] : List Int), (⟨#[]⟩ : ByteArray), 4)) else (if bt190.2.2.2.2.1.toList = ([] : List UInt8) then (some (bt190.1, bt190.2.1, bt190.2.2.1, bt190.2.2.2.1, 0)) else (some (0, 0, ([] : List Int), (⟨#[]⟩ : ByteArray), 4))))) = some (r1, r2, r3, r4, r5) := h
 clear h
 obtain ⟨⟨t190, t191, t192, t195, t196, t197⟩, A20, H⟩ := Option.bind_eq_some_iff.mp H
 try dsimp only at H
 have A2 := a_ A20
 clear A20
 by_cases c3 : t197 = true
 ·subst c3
  have H1 : (some (0, 0, ([] : List Int), (⟨#[]⟩ : ByteArray), 4)) = some (r1, r2, r3, r4, r5) := by rw [if_pos rfl] at H; exact H
  clear H
  have H := H1
  clear H1
  simp only [Option.some.injEq, Prod.mk.injEq] at H
  obtain ⟨rfl, rfl, rfl, rfl, rfl⟩ := H
  go_enter Try.func27, Try.ntmps27
  go_wp2_with (first | ((with_reducible refine gd_ 2 ?_); refine bx_ 2 #[.int .u64 0, .int .u64 0, .slice none 0 0, .string (⟨#[]⟩ : ByteArray)] 48 ?_; intro gb188 hg w4 hbox hb; have BK188 := a_ (hbox); have GE188 := a_ (bs_0 hg HB); replace HB := hB_ (bl_ HB) hb; clear hb hbox hg) | ((with_reducible refine gd_ 9 ?_); refine bx_ 9 #[.string a0, .bool false] 81 ?_; intro gb189 hg w5 hbox hb; have BK189 := a_ (hbox); have GE189 := a_ (bs_1 hg HB GE188); replace HB := hB_ (bl_1 HB GE188) hb; have NB188_189 := nB_ hg BK188; have NB189_188 := nC_ hg BK188; replace BK188 := bB_ BK188 hb; clear hb hbox hg) | ((with_reducible refine gk_ 53 ?_); refine gl_ (some 11) Try.func53 #[.pointer (some ⟨gb189, 0, none⟩)] ?_; (with_reducible refine (snap_Taker_Snap.calls k gb189 a0 false t190 t191 t192 t195 t196 true w _ ?side1 ?side2 A2.out).mono ?_); (case side1 => exact ⟨81, by decide, (bk_ BK189), GE189.out⟩); (case side2 => repeat (first | (with_reducible first | exact HB.out | apply below_alloc | apply pw_below_drewN | apply below_drew1 | refine below_set ?_ GE188.out | refine below_set ?_ GE189.out) | exact HB.out)); rintro e w6 ⟨v193, rfl, ho0, hi, hb, hk⟩; refine ⟨_, rfl, ?_⟩; replace BK188 := a_ (KeepBut.blk hk (g' := gb188) (o := .cells #[.int .u64 0, .int .u64 0, .slice none 0 0, .string (⟨#[]⟩ : ByteArray)] 48 (0, 0)) (bk_ BK188) NB188_189.out (by simp)); have HO194 := a_ (Kd.R_lower ho0 (below_size (bl_2 HB GE188 GE189))); replace HB := a_ (hb); have HI189 := a_ (hi); (try clear hb); (try clear ho0)) | ((with_reducible refine gd_ 5 ?_); refine bx_ 5 #[.int .u64 0, .int .u64 0, .slice none 0 0, .string (⟨#[]⟩ : ByteArray)] 48 ?_; intro gb198 hg w7 hbox hb; replace HO194 := a_ (Kd.R_below (by refine rq_ ?_; exact HO194.out) hb); have BK198 := a_ (hbox); have GE198 := a_ ((by rw [hg]; exact (below_size (by repeat (first | (with_reducible first | exact HB.out | apply below_alloc | apply pw_below_drewN | apply below_drew1 | refine below_set ?_ (IsS79.ge HI189.out) | refine below_set ?_ GE188.out) | exact HB.out))) : w.heap.size ≤ gb198)); replace HB := a_ (below_step (by repeat (first | (with_reducible first | exact HB.out | apply below_alloc | apply pw_below_drewN | apply below_drew1 | refine below_set ?_ (IsS79.ge HI189.out) | refine below_set ?_ GE188.out) | exact HB.out)) hb); have NB188_198 := nB_ hg BK188; have NB198_188 := nC_ hg BK188; replace BK188 := bB_ BK188 hb; have NB189_198 := a_ ((by rw [hg]; exact Nat.ne_of_lt (IsS79.lt (show IsS79 w _ gb189 t196 true from by repeat (first | (with_reducible first | exact HI189.out | apply IsS79.alloc | apply IsS79.drewN | apply IsS79.drew | apply IsS79.set_0 | apply IsS79.set_1 | apply IsS79.far (hne := NB189_188.out)) | exact HI189.out))) : gb189 ≠ gb198)); have NB198_189 := a_ ((by rw [hg]; exact Nat.ne_of_gt (IsS79.lt (show IsS79 w _ gb189 t196 true from by repeat (first | (with_reducible first | exact HI189.out | apply IsS79.alloc | apply IsS79.drewN | apply IsS79.drew | apply IsS79.set_0 | apply IsS79.set_1 | apply IsS79.far (hne := NB189_188.out)) | exact HI189.out))) : gb198 ≠ gb189)); replace HI189 := a_ (IsS79.below (by repeat (first | (with_reducible first | exact HI189.out | apply IsS79.alloc | apply IsS79.drewN | apply IsS79.drew | apply IsS79.set_0 | apply IsS79.set_1 | apply IsS79.far (hne := NB189_188.out)) | exact HI189.out)) hb); clear hb hbox hg; have hnb8 := NB198_188.out; have hnc8 := NB188_198.out; have hnb9 := NB198_189.out; have hnc9 := NB189_198.out; obtain ⟨hcz10_0, hcz10_1, hcz10_2, hcz10_3, hfz10_0, hfz10_1, hfz10_2, hfz10_3⟩ := c4_ BK198; obtain ⟨Ao11, co11, eo11⟩ := Kd.R_slice HO194.out; subst eo11; obtain ⟨Tz12_, hTz12_, HGz12, hgz12⟩ := HI189.out; have hcz12_0 := cellS79_0 HGz12; have hcz12_1 := cellS79_1 HGz12; have hfz12_0 := blk_frozen HGz12 0; have hfz12_1 := blk_frozen HGz12 1; clear HGz12 hgz12; have hnb13 := NB188_189.out; have hnc13 := NB189_188.out; obtain ⟨hcz14_0, hcz14_1, hcz14_2, hcz14_3, hfz14_0, hfz14_1, hfz14_2, hfz14_3⟩ := c4_ BK188))
  refine bodyPost_ret (results_ct rfl _ _ gb188 48 #[.int .u64 0, .int .u64 0, .slice none 0 0, .string (⟨#[]⟩ : ByteArray)] (0, 0) _ rfl (bp_1 BK188 NB188_198) Try.underlying48 rfl (by kernel_rfl)) rfl ?_
  exact ⟨_, fz_, by first | exact Kd.R_nil _ _ _ _ _ | exact Kd.N_nil _ _ _ _ _ | exact Kd.V_nil _ _ _ _ _ | exact Kd.Q_nil _ _ _ _ _ | exact Kd.S_nil _ _ _ _ _, by repeat (first | (with_reducible first | exact HB.out | apply below_alloc | apply pw_below_drewN | apply below_drew1 | refine below_set ?_ (IsS79.ge HI189.out) | refine below_set ?_ GE188.out | refine below_set ?_ GE198.out) | exact HB.out)⟩
 replace c3 := Bool.eq_false_iff.mpr c3
 subst c3
 have H1 : (if t196.toList = ([] : List UInt8) then (some (t190, t191, t192, t195, 0)) else (some (0, 0, ([] : List Int), (⟨#[]⟩ : ByteArray), 4))) = some (r1, r2, r3, r4, r5) := by rw [if_neg (show ¬ (false = true) by decide)] at H; exact H
 clear H
 have H := H1
 clear H1
 by_cases c15 : t196.toList = ([] : List UInt8)
 rotate_left
 ·rw [if_neg c15] at H
  have c15b0 : (t196.toList == ([] : List UInt8)) = false := beq_eq_false_iff_ne.mpr c15
  have c15b1 : (t196.toList != ([] : List UInt8)) = true := bne_iff_ne.mpr c15
  simp only [Option.some.injEq, Prod.mk.injEq] at H
  obtain ⟨rfl, rfl, rfl, rfl, rfl⟩ := H
  go_enter Try.func27, Try.ntmps27
  go_wp2_with (first | ((with_reducible refine gd_ 2 ?_); refine bx_ 2 #[.int .u64 0, .int .u64 0, .slice none 0 0, .string (⟨#[]⟩ : ByteArray)] 48 ?_; intro gb188 hg w27 hbox hb; have BK188 := a_ (hbox); have GE188 := a_ (bs_0 hg HB); replace HB := hB_ (bl_ HB) hb; clear hb hbox hg) | ((with_reducible refine gd_ 9 ?_); refine bx_ 9 #[.string a0, .bool false] 81 ?_; intro gb189 hg w28 hbox hb; have BK189 := a_ (hbox); have GE189 := a_ (bs_1 hg HB GE188); replace HB := hB_ (bl_1 HB GE188) hb; have NB188_189 := nB_ hg BK188; have NB189_188 := nC_ hg BK188; replace BK188 := bB_ BK188 hb; clear hb hbox hg) | ((with_reducible refine gk_ 53 ?_); refine gl_ (some 11) Try.func53 #[.pointer (some ⟨gb189, 0, none⟩)] ?_; (with_reducible refine (snap_Taker_Snap.calls k gb189 a0 false t190 t191 t192 t195 t196 false w _ ?side1 ?side2 A2.out).mono ?_); (case side1 => exact ⟨81, by decide, (bk_ BK189), GE189.out⟩); (case side2 => repeat (first | (with_reducible first | exact HB.out | apply below_alloc | apply pw_below_drewN | apply below_drew1 | refine below_set ?_ GE188.out | refine below_set ?_ GE189.out) | exact HB.out)); rintro e w29 ⟨v193, rfl, ho0, hi, hb, hk⟩; refine ⟨_, rfl, ?_⟩; replace BK188 := a_ (KeepBut.blk hk (g' := gb188) (o := .cells #[.int .u64 0, .int .u64 0, .slice none 0 0, .string (⟨#[]⟩ : ByteArray)] 48 (0, 0)) (bk_ BK188) NB188_189.out (by simp)); have HO194 := a_ (Kd.R_lower ho0 (below_size (bl_2 HB GE188 GE189))); replace HB := a_ (hb); have HI189 := a_ (hi); (try clear hb); (try clear ho0)) | ((with_reducible refine gd_ 5 ?_); refine bx_ 5 #[.int .u64 0, .int .u64 0, .slice none 0 0, .string (⟨#[]⟩ : ByteArray)] 48 ?_; intro gb198 hg w30 hbox hb; replace HO194 := a_ (Kd.R_below (by refine rq_ ?_; exact HO194.out) hb); have BK198 := a_ (hbox); have GE198 := a_ ((by rw [hg]; exact (below_size (by repeat (first | (with_reducible first | exact HB.out | apply below_alloc | apply pw_below_drewN | apply below_drew1 | refine below_set ?_ (IsS79.ge HI189.out) | refine below_set ?_ GE188.out) | exact HB.out))) : w.heap.size ≤ gb198)); replace HB := a_ (below_step (by repeat (first | (with_reducible first | exact HB.out | apply below_alloc | apply pw_below_drewN | apply below_drew1 | refine below_set ?_ (IsS79.ge HI189.out) | refine below_set ?_ GE188.out) | exact HB.out)) hb); have NB188_198 := nB_ hg BK188; have NB198_188 := nC_ hg BK188; replace BK188 := bB_ BK188 hb; have NB189_198 := a_ ((by rw [hg]; exact Nat.ne_of_lt (IsS79.lt (show IsS79 w _ gb189 t196 false from by repeat (first | (with_reducible first | exact HI189.out | apply IsS79.alloc | apply IsS79.drewN | apply IsS79.drew | apply IsS79.set_0 | apply IsS79.set_1 | apply IsS79.far (hne := NB189_188.out)) | exact HI189.out))) : gb189 ≠ gb198)); have NB198_189 := a_ ((by rw [hg]; exact Nat.ne_of_gt (IsS79.lt (show IsS79 w _ gb189 t196 false from by repeat (first | (with_reducible first | exact HI189.out | apply IsS79.alloc | apply IsS79.drewN | apply IsS79.drew | apply IsS79.set_0 | apply IsS79.set_1 | apply IsS79.far (hne := NB189_188.out)) | exact HI189.out))) : gb198 ≠ gb189)); replace HI189 := a_ (IsS79.below (by repeat (first | (with_reducible first | exact HI189.out | apply IsS79.alloc | apply IsS79.drewN | apply IsS79.drew | apply IsS79.set_0 | apply IsS79.set_1 | apply IsS79.far (hne := NB189_188.out)) | exact HI189.out)) hb); clear hb hbox hg; have hnb31 := NB198_188.out; have hnc31 := NB188_198.out; have hnb32 := NB198_189.out; have hnc32 := NB189_198.out; obtain ⟨hcz33_0, hcz33_1, hcz33_2, hcz33_3, hfz33_0, hfz33_1, hfz33_2, hfz33_3⟩ := c4_ BK198; obtain ⟨Ao34, co34, eo34⟩ := Kd.R_slice HO194.out; subst eo34; obtain ⟨Tz35_, hTz35_, HGz35, hgz35⟩ := HI189.out; have hcz35_0 := cellS79_0 HGz35; have hcz35_1 := cellS79_1 HGz35; have hfz35_0 := blk_frozen HGz35 0; have hfz35_1 := blk_frozen HGz35 1; clear HGz35 hgz35; have hnb36 := NB188_189.out; have hnc36 := NB189_188.out; obtain ⟨hcz37_0, hcz37_1, hcz37_2, hcz37_3, hfz37_0, hfz37_1, hfz37_2, hfz37_3⟩ := c4_ BK188))
  refine bodyPost_ret (results_ct rfl _ _ gb188 48 #[.int .u64 0, .int .u64 0, .slice none 0 0, .string (⟨#[]⟩ : ByteArray)] (0, 0) _ rfl (bp_1 BK188 NB188_198) Try.underlying48 rfl (by kernel_rfl)) rfl ?_
  exact ⟨_, fz_, by first | exact Kd.R_nil _ _ _ _ _ | exact Kd.N_nil _ _ _ _ _ | exact Kd.V_nil _ _ _ _ _ | exact Kd.Q_nil _ _ _ _ _ | exact Kd.S_nil _ _ _ _ _, by repeat (first | (with_reducible first | exact HB.out | apply below_alloc | apply pw_below_drewN | apply below_drew1 | refine below_set ?_ (IsS79.ge HI189.out) | refine below_set ?_ GE188.out | refine below_set ?_ GE198.out) | exact HB.out)⟩


 rw [if_pos c15] at H
 have c15b0 : (t196.toList == ([] : List UInt8)) = true := beq_iff_eq.mpr c15
 have c15b1 : (t196.toList != ([] : List UInt8)) = false := bne_eq_false_iff_eq.mpr c15
 clear c15
 simp only [Option.some.injEq, Prod.mk.injEq] at H
 obtain ⟨rfl, rfl, rfl, rfl, rfl⟩ := H
 go_enter Try.func27, Try.ntmps27
 go_wp2_with (first | ((with_reducible refine gd_ 2 ?_); refine bx_ 2 #[.int .u64 0, .int .u64 0, .slice none 0 0, .string (⟨#[]⟩ : ByteArray)] 48 ?_; intro gb188 hg w16 hbox hb; have BK188 := a_ (hbox); have GE188 := a_ (bs_0 hg HB); replace HB := hB_ (bl_ HB) hb; clear hb hbox hg) | ((with_reducible refine gd_ 9 ?_); refine bx_ 9 #[.string a0, .bool false] 81 ?_; intro gb189 hg w17 hbox hb; have BK189 := a_ (hbox); have GE189 := a_ (bs_1 hg HB GE188); replace HB := hB_ (bl_1 HB GE188) hb; have NB188_189 := nB_ hg BK188; have NB189_188 := nC_ hg BK188; replace BK188 := bB_ BK188 hb; clear hb hbox hg) | ((with_reducible refine gk_ 53 ?_); refine gl_ (some 11) Try.func53 #[.pointer (some ⟨gb189, 0, none⟩)] ?_; (with_reducible refine (snap_Taker_Snap.calls k gb189 a0 false t190 t191 t192 t195 t196 false w _ ?side1 ?side2 A2.out).mono ?_); (case side1 => exact ⟨81, by decide, (bk_ BK189), GE189.out⟩); (case side2 => repeat (first | (with_reducible first | exact HB.out | apply below_alloc | apply pw_below_drewN | apply below_drew1 | refine below_set ?_ GE188.out | refine below_set ?_ GE189.out) | exact HB.out)); rintro e w18 ⟨v193, rfl, ho0, hi, hb, hk⟩; refine ⟨_, rfl, ?_⟩; replace BK188 := a_ (KeepBut.blk hk (g' := gb188) (o := .cells #[.int .u64 0, .int .u64 0, .slice none 0 0, .string (⟨#[]⟩ : ByteArray)] 48 (0, 0)) (bk_ BK188) NB188_189.out (by simp)); have HO194 := a_ (Kd.R_lower ho0 (below_size (bl_2 HB GE188 GE189))); replace HB := a_ (hb); have HI189 := a_ (hi); (try clear hb); (try clear ho0)) | ((with_reducible refine gd_ 5 ?_); refine bx_ 5 #[.int .u64 0, .int .u64 0, .slice none 0 0, .string (⟨#[]⟩ : ByteArray)] 48 ?_; intro gb198 hg w19 hbox hb; replace HO194 := a_ (Kd.R_below (by refine rq_ ?_; exact HO194.out) hb); have BK198 := a_ (hbox); have GE198 := a_ ((by rw [hg]; exact (below_size (by repeat (first | (with_reducible first | exact HB.out | apply below_alloc | apply pw_below_drewN | apply below_drew1 | refine below_set ?_ (IsS79.ge HI189.out) | refine below_set ?_ GE188.out) | exact HB.out))) : w.heap.size ≤ gb198)); replace HB := a_ (below_step (by repeat (first | (with_reducible first | exact HB.out | apply below_alloc | apply pw_below_drewN | apply below_drew1 | refine below_set ?_ (IsS79.ge HI189.out) | refine below_set ?_ GE188.out) | exact HB.out)) hb); have NB188_198 := nB_ hg BK188; have NB198_188 := nC_ hg BK188; replace BK188 := bB_ BK188 hb; have NB189_198 := a_ ((by rw [hg]; exact Nat.ne_of_lt (IsS79.lt (show IsS79 w _ gb189 t196 false from by repeat (first | (with_reducible first | exact HI189.out | apply IsS79.alloc | apply IsS79.drewN | apply IsS79.drew | apply IsS79.set_0 | apply IsS79.set_1 | apply IsS79.far (hne := NB189_188.out)) | exact HI189.out))) : gb189 ≠ gb198)); have NB198_189 := a_ ((by rw [hg]; exact Nat.ne_of_gt (IsS79.lt (show IsS79 w _ gb189 t196 false from by repeat (first | (with_reducible first | exact HI189.out | apply IsS79.alloc | apply IsS79.drewN | apply IsS79.drew | apply IsS79.set_0 | apply IsS79.set_1 | apply IsS79.far (hne := NB189_188.out)) | exact HI189.out))) : gb198 ≠ gb189)); replace HI189 := a_ (IsS79.below (by repeat (first | (with_reducible first | exact HI189.out | apply IsS79.alloc | apply IsS79.drewN | apply IsS79.drew | apply IsS79.set_0 | apply IsS79.set_1 | apply IsS79.far (hne := NB189_188.out)) | exact HI189.out)) hb); clear hb hbox hg; have hnb20 := NB198_188.out; have hnc20 := NB188_198.out; have hnb21 := NB198_189.out; have hnc21 := NB189_198.out; obtain ⟨hcz22_0, hcz22_1, hcz22_2, hcz22_3, hfz22_0, hfz22_1, hfz22_2, hfz22_3⟩ := c4_ BK198; obtain ⟨Ao23, co23, eo23⟩ := Kd.R_slice HO194.out; subst eo23; obtain ⟨Tz24_, hTz24_, HGz24, hgz24⟩ := HI189.out; have hcz24_0 := cellS79_0 HGz24; have hcz24_1 := cellS79_1 HGz24; have hfz24_0 := blk_frozen HGz24 0; have hfz24_1 := blk_frozen HGz24 1; clear HGz24 hgz24; have hnb25 := NB188_189.out; have hnc25 := NB189_188.out; obtain ⟨hcz26_0, hcz26_1, hcz26_2, hcz26_3, hfz26_0, hfz26_1, hfz26_2, hfz26_3⟩ := c4_ BK188))
 refine bodyPost_ret (results_ct rfl _ _ gb188 48 #[.int .u64 t190, .int .u64 t191, .slice Ao23 t192.length co23, .string t195] (0, 0) _ rfl (bp_1 BK188 NB188_198) Try.underlying48 rfl (by kernel_rfl)) rfl ?_
 exact ⟨_, fz_, by refine rq_ ?_; exact Kd.R_mono (Kd.R_far (p := ⟨gb188, 3, none⟩) (Kd.R_far (p := ⟨gb188, 2, none⟩) (Kd.R_far (p := ⟨gb188, 1, none⟩) (Kd.R_far (p := ⟨gb188, 0, none⟩) (Kd.R_far (p := ⟨gb198, 3, none⟩) (Kd.R_far (p := ⟨gb198, 2, none⟩) (Kd.R_far (p := ⟨gb198, 1, none⟩) (Kd.R_far (p := ⟨gb198, 0, none⟩) (Kd.R_types (Kd.R_types HO194.out BK198.out (by decide)) BK188.out (by decide)) (fun _ hk => hk.1.2) (.int .u64 t190)) (fun _ hk => hk.1.2) (.int .u64 t191)) (fun _ hk => hk.1.2) (.slice Ao23 t192.length co23)) (fun _ hk => hk.1.2) (.string t195)) (fun _ hk => hk.2) (.int .u64 t190)) (fun _ hk => hk.2) (.int .u64 t191)) (fun _ hk => hk.2) (.slice Ao23 t192.length co23)) (fun _ hk => hk.2) (.string t195)) (fun _ hk => trivial), by repeat (first | (with_reducible first | exact HB.out | apply below_alloc | apply pw_below_drewN | apply below_drew1 | refine below_set ?_ (IsS79.ge HI189.out) | refine below_set ?_ GE188.out | refine below_set ?_ GE198.out) | exact HB.out)⟩
/-! ### pack_fixed: function 91 -/
def pack_fixed.l0 : Nat → Int → Int → List Int → Int → Int → Option (ByteArray)
 | 0, _, _, _, _, _ => none
 | k + 1, x0, x1, x5, x10, x11 => if x11 < x10 then (if 0 ≤ (wrap64 (8 * x11)) then (if 0 ≤ (wrap64 ((wrap64 (x1 - 1)) - x11)) then (if (wrap64 ((wrap64 (x1 - 1)) - x11)) < (x5.length : Int) then (pack_fixed.l0 k x0 x1 (x5.set ((wrap64 ((wrap64 (x1 - 1)) - x11)) : Int).toNat ((shr .u64 x0 (wrap64 (8 * x11))) % 256)) x10 (wrap64 (x11 + 1))) else (none)) else (none)) else (none)) else (some (strOfNums x5))
def pack_fixed.f (k : Nat) (a0 : Int) (a1 : Int) : Option (ByteArray) := if 0 ≤ a1 then (if (a1 : Int).toNat ≤ 281474976710656 then ((some (List.replicate (a1 : Int).toNat 0 : List Int)).bind fun y199 => (pack_fixed.l0 k a0 a1 y199 (y199.length : Int) 0)) else (none)) else (none)
theorem pack_fixed.mono_l : ∀ k, (∀ y0 y1 y2 y3 y4, LeO (pack_fixed.l0 k y0 y1 y2 y3 y4) (pack_fixed.l0 (k + 1) y0 y1 y2 y3 y4))
 | 0 => fun _ _ _ _ _ r h => by simp [pack_fixed.l0] at h
 | k + 1 => by
  have ih0 := pack_fixed.mono_l k
  ·intro y0 y1 y2 y3 y4
   unfold pack_fixed.l0
   repeat' with_reducible first | exact ih0 _ _ _ _ _ | exact LeO.refl _ | exact LeO.none _ | refine LeO.ite ?_ ?_ | refine LeO.bind ?_ (fun _ => ?_)
theorem pack_fixed.mono : ∀ a0 a1 k, LeO (pack_fixed.f k a0 a1) (pack_fixed.f (k + 1) a0 a1) := by
 intro a0 a1 k
 have ih0 := pack_fixed.mono_l k
 unfold pack_fixed.f
 repeat' with_reducible first | exact ih0 _ _ _ _ _ | exact LeO.refl _ | exact LeO.none _ | refine LeO.ite ?_ ?_ | refine LeO.bind ?_ (fun _ => ?_)
theorem pack_fixed.calls (k : Nat) (a0 : Int) (a1 : Int) (r : ByteArray) (w : World) (h : pack_fixed.f k a0 a1 = some r) :
  Calls Try.prog 91 #[.int .u64 a0, .int .i64 a1] w fun e w' => e = .returned (.string r) ∧ Below w.heap.size w w' := by
 have HB := a_ (Below.refl w.heap.size w)
 have H : (if 0 ≤ a1 then (if (a1 : Int).toNat ≤ 281474976710656 then ((some (List.replicate (a1 : Int).toNat 0 : List Int)).bind fun y199 => (pack_fixed.l0 k a0 a1 y199 (y199.length : Int) 0)) else (none)) else (none)) = some r := h
 clear h
 by_cases c3 : 0 ≤ a1
 rotate_left
 ·rw [if_neg c3] at H
  exact absurd H (by simp)


 rw [if_pos c3] at H
 have c3b0 := eq_true c3
 have c3b1 : decide (0 ≤ a1) = true := decide_eq_true c3
 clear c3
 by_cases c4 : (a1 : Int).toNat ≤ 281474976710656
 rotate_left
 ·rw [if_neg c4] at H
  exact absurd H (by simp)
 rw [if_pos c4] at H
 have c4b0 := eq_true c4
 have c4b1 : decide ((a1 : Int).toNat ≤ 281474976710656) = true := decide_eq_true c4
 clear c4
 obtain ⟨y199, hy199⟩ : ∃ y_ : List Int, y_ = (List.replicate (a1 : Int).toNat 0) := ⟨_, rfl⟩
 replace H : (pack_fixed.l0 k a0 a1 y199 (y199.length : Int) 0) = some r := by first | (rw [hy199]; with_reducible exact H) | (have H2_ := (Option.bind_some _ _).symm.trans H; rw [hy199]; with_reducible exact H2_) | (have H2_ := (Option.bind_some _ _).symm.trans H; with_reducible exact H2_) | with_reducible exact H | (rw [hy199]; exact H) | exact H
 have Ny199 := a_ hy199
 clear hy199
 have H' := a_ H
 clear H
 go_enter Try.func91, Try.ntmps91
 go_wp2_with (first | ((with_reducible refine gd_ 8 ?_); refine Kd.R_make (Kd.int .u8) _ 5 rfl (N := 8) rfl 111 _ _ rfl a1 rfl rfl Try.underlying111 (.int .u8 0) 1 info5 rfl (by decide) (by omega) 0 (ok := fun _ => True) (okp := fun _ => True) rfl (fun _ hk => hk) trivial od_ (Nat.le_trans (Nat.mul_le_mul_right _ (od_ : a1.toNat ≤ 281474976710656)) (by omega)) (Below.refl _ _) (Nat.le_refl _) ?_; intro v200 w5 ho6 hb hg_ hnew_; clear hg_ hnew_; (first | rw [← Ny199.out] at ho6 | (simp only [Int.reduceToNat] at ho6; rw [← Ny199.out] at ho6)); have HO201 := a_ (Kd.R_lower ho6 (below_size (bl_ HB))); replace HB := hB_ (bl_ HB) hb; clear hb ho6; obtain ⟨Ao7, co7, eo7⟩ := Kd.R_slice HO201.out; subst eo7))
 go_loopg [11] k (fun kq v11 w' => ∃ (x5_1 : List Int) (x11_1 : Int), v11 = .int .i64 x11_1 ∧ Aside0 (pack_fixed.l0 kq a0 a1 x5_1 (y199.length : Int) x11_1 = some r) ∧ Aside0 (kq ≤ k) ∧ Aside0 (Kd.R (Kd.int .u8) 5 w' w.heap.size (fun _ => True) (.slice Ao7 y199.length co7) x5_1) ∧ Aside0 (Below w.heap.size w w'))
 case atStart => exact ⟨(y199), (0), fz_, H', ⟨Nat.le_refl _⟩, ⟨by refine rq_ ?_; exact HO201.out⟩, ⟨bl_ HB⟩⟩
 case round =>
  clear H'
  try clear p2
  try clear c3
  try clear c3b0
  try clear c3b1
  try clear c4
  try clear c4b0
  try clear c4b1
  obtain ⟨x5_1, x11_1, rfl, HA, HK1, HO_5, HB⟩ := hrel
  have hl5_1 := (Kd.R_reads' HO_5.out).1
  rw [hl5_1] at HO_5
  (try simp only [hl5_1])
  cases gk with
  | zero => exact absurd HA.out (by simp [pack_fixed.l0])
  | succ k1 =>
   have H := HA.out
   clear HA
   simp only [pack_fixed.l0] at H
   by_cases c8 : x11_1 < (y199.length : Int)
   rotate_left
   ·rw [if_neg c8] at H
    have c8b0 : decide (x11_1 < (y199.length : Int)) = false := decide_eq_false c8
    (try rw [hl5_1] at c8b0)
    clear c8
    obtain rfl := Option.some.inj H
    have hcv18 := own_string (P := Try.prog) Try.underlying111 Try.underlying5 Try.underlying9 (Kd.own_of_R HO_5.out)
    go_wp2
    go_ret
    exact ⟨fz_, bl_ HB⟩
   rw [if_pos c8] at H
   have c8b0 : decide (x11_1 < (y199.length : Int)) = true := decide_eq_true c8
   (try rw [hl5_1] at c8b0)
   clear c8
   obtain ⟨ji9, hji9⟩ : ∃ j_ : Int, (wrap64 (8 * x11_1)) = j_ := ⟨_, rfl⟩
   replace H : (if 0 ≤ (ji9) then (if 0 ≤ (wrap64 ((wrap64 (a1 - 1)) - x11_1)) then (if (wrap64 ((wrap64 (a1 - 1)) - x11_1)) < (x5_1.length : Int) then (pack_fixed.l0 k1 a0 a1 (x5_1.set ((wrap64 ((wrap64 (a1 - 1)) - x11_1)) : Int).toNat ((shr .u64 a0 (ji9)) % 256)) (y199.length : Int) (wrap64 (x11_1 + 1))) else (none)) else (none)) else (none)) = some r := by first | (rw [hji9] at H; exact H) | (simp only [hji9] at H ⊢; exact H)
   have hji9w : (IntKind.i64.wrap (8 * x11_1)) = ji9 := (i64_w _).trans hji9
   by_cases c10 : 0 ≤ (ji9)
   rotate_left
   ·rw [if_neg c10] at H
    exact absurd H (by simp)
   rw [if_pos c10] at H
   have c10b0 := eq_true c10
   have c10b1 : decide (0 ≤ (ji9)) = true := decide_eq_true c10
   clear c10
   obtain ⟨ji11, hji11⟩ : ∃ j_ : Int, (shr .u64 a0 (ji9)) = j_ := ⟨_, rfl⟩
   replace H : (if 0 ≤ (wrap64 ((wrap64 (a1 - 1)) - x11_1)) then (if (wrap64 ((wrap64 (a1 - 1)) - x11_1)) < (x5_1.length : Int) then (pack_fixed.l0 k1 a0 a1 (x5_1.set ((wrap64 ((wrap64 (a1 - 1)) - x11_1)) : Int).toNat ((ji11) % 256)) (y199.length : Int) (wrap64 (x11_1 + 1))) else (none)) else (none)) = some r := by first | (rw [hji11] at H; exact H) | (simp only [hji11] at H ⊢; exact H)
   have hji11_ : (a0 / 2 ^ min (ji9).toNat 64) = ji11 := hji11
   have hji11z : (ji9) ≤ 64 → (a0 / 2 ^ (ji9).toNat) = ji11 := shr_small hji11
   obtain ⟨ji12, hji12⟩ : ∃ j_ : Int, (wrap64 ((wrap64 (a1 - 1)) - x11_1)) = j_ := ⟨_, rfl⟩
   replace H : (if 0 ≤ (ji12) then (if (ji12) < (x5_1.length : Int) then (pack_fixed.l0 k1 a0 a1 (x5_1.set ((ji12) : Int).toNat ((ji11) % 256)) (y199.length : Int) (wrap64 (x11_1 + 1))) else (none)) else (none)) = some r := by first | (rw [hji12] at H; exact H) | (simp only [hji12] at H ⊢; exact H)
   have hji12w : (IntKind.i64.wrap ((wrap64 (a1 - 1)) - x11_1)) = ji12 := (i64_w _).trans hji12
   by_cases c13 : 0 ≤ (ji12)
   rotate_left
   ·rw [if_neg c13] at H
    exact absurd H (by simp)
   rw [if_pos c13] at H
   have c13b0 : decide (0 ≤ (ji12)) = true := decide_eq_true c13
   clear c13
   by_cases c14 : (ji12) < (x5_1.length : Int)
   rotate_left
   ·rw [if_neg c14] at H
    exact absurd H (by simp)
   rw [if_pos c14] at H
   have c14b0 : decide ((ji12) < (x5_1.length : Int)) = true := decide_eq_true c14
   (try rw [hl5_1] at c14b0)
   clear c14
   obtain ⟨y202, hy202⟩ : ∃ y_ : List Int, y_ = (x5_1.set ((ji12) : Int).toNat ((ji11) % 256)) := ⟨_, rfl⟩
   replace H : (pack_fixed.l0 k1 a0 a1 y202 (y199.length : Int) (wrap64 (x11_1 + 1))) = some r := by first | (rw [hy202]; with_reducible exact H) | (have H2_ := (Option.bind_some _ _).symm.trans H; rw [hy202]; with_reducible exact H2_) | (have H2_ := (Option.bind_some _ _).symm.trans H; with_reducible exact H2_) | with_reducible exact H | (rw [hy202]; exact H) | exact H
   have Ny202 := a_ hy202
   clear hy202
   have H' := a_ H
   clear H
   have p15 : 0 ≤ ((ji12) : Int) := od_
   have q15 : ((ji12) : Int) < ((x5_1.length : Int) : Int) := od_
   obtain ⟨go15, co15, eo15, gb15, gl15, cl15, HG15⟩ := Kd.R_form HO_5.out (by omega)
   (first | cases eo15 | (injection eo15 with ea_ en_ ec_; (first | subst ea_ | (injection ea_ with ea_; subst ea_)); subst ec_; clear en_))
   have GB15 := a_ gb15
   have GG15 := a_ HG15
   clear gb15 gl15 HG15
   obtain ⟨hx15_0, hf15_0⟩ := Kd.R_celln 0 HO_5.out ((ji12) : Int) p15 q15
   replace p15 := eq_true p15
   replace q15 := eq_true q15
   have HP16 := Kd.R_putg HO_5.out ((ji12) : Int) ((ji11) % 256)
   go_wp2_with (first | ((with_reducible refine gate_store (t := 5) (p := 24) rfl ?_); refine store_event (t := 5) (p := 24) (v := ?vo_w17) (w1 := (wr.setCell ⟨go15, ((ji12) : Int).toNat, none⟩ (.int .u8 ((ji11) % 256)))) ?hg ?ho ?hn ?hr ?_; (case ho => rfl); (case hg => rfl); (case hn => rfl); (case hr => first | (go_simp; done) | (go_simp; rfl)); intro w17 hw; have hg : wr.grownBy w17 (some go15) := (by rw [hw]; exact HP16.2); have hp_ : Kd.R (Kd.int .u8) 5 w17 w.heap.size (fun _ => True) (.slice (some ⟨go15, 0, none⟩) x5_1.length co7) y202 := (by rw [hw, Ny202.out]; exact HP16.1); clear HP16; replace HO_5 := a_ (hp_); replace HB := a_ ((by rw [hw]; exact below_set (HB.out) GB15.out : Below w.heap.size w w17)); clear hg hw hp_))
   (try simp only [← hl5_1])
   go_roundg k1
   case measure => have := HK1.out; omega
   case rel => exact ⟨(y202), (wrap64 (x11_1 + 1)), fz_, H', ⟨by have := HK1.out; omega⟩, ⟨by (try simp only [hl5_1]); refine rq_ ?_; exact HO_5.out⟩, ⟨bl_ HB⟩⟩
/-! ### pack_Sum: function 92 -/
mutual
def pack_Sum.l0 : Nat → ByteArray → Int → Int → Option (Int)
 | 0, _, _, _ => none
 | k + 1, x0, x3, x4 => if x4 = (x0.size : Int) then (some x3) else (if 0 ≤ x4 then (if x4 < (x0.size : Int) then (pack_Sum.l1 k x0 (Go.bits .xor .u16 x3 (IntKind.u16.wrap ((IntKind.u16.wrap (bt x0 x4)) * 256))) x4 0) else (none)) else (none))
def pack_Sum.l1 : Nat → ByteArray → Int → Int → Int → Option (Int)
 | 0, _, _, _, _ => none
 | k + 1, x0, x3, x4, x19 => if x19 < 8 then (pack_Sum.l1 k x0 (Go.bits .xor .u16 (IntKind.u16.wrap (x3 * 2)) (IntKind.u16.wrap (4129 * (x3 / 32768)))) x4 (wrap64 (x19 + 1))) else (pack_Sum.l0 k x0 x3 (wrap64 (x4 + 1)))
end
def pack_Sum.f (k : Nat) (a0 : ByteArray) : Option (Int) := pack_Sum.l0 k a0 65535 0
theorem pack_Sum.mono_l : ∀ k, (∀ y0 y1 y2, LeO (pack_Sum.l0 k y0 y1 y2) (pack_Sum.l0 (k + 1) y0 y1 y2)) ∧ (∀ y0 y1 y2 y3, LeO (pack_Sum.l1 k y0 y1 y2 y3) (pack_Sum.l1 (k + 1) y0 y1 y2 y3))
 | 0 => ⟨fun _ _ _ r h => by simp [pack_Sum.l0] at h, fun _ _ _ _ r h => by simp [pack_Sum.l1] at h⟩
 | k + 1 => by
  obtain ⟨ih0, ih1⟩ := pack_Sum.mono_l k
  refine ⟨?_, ?_⟩
  ·intro y0 y1 y2
   unfold pack_Sum.l0
   repeat' with_reducible first | exact ih0 _ _ _ | exact ih1 _ _ _ _ | exact LeO.refl _ | exact LeO.none _ | refine LeO.ite ?_ ?_ | refine LeO.bind ?_ (fun _ => ?_)
  ·intro y0 y1 y2 y3
   unfold pack_Sum.l1
   repeat' with_reducible first | exact ih0 _ _ _ | exact ih1 _ _ _ _ | exact LeO.refl _ | exact LeO.none _ | refine LeO.ite ?_ ?_ | refine LeO.bind ?_ (fun _ => ?_)
theorem pack_Sum.mono : ∀ a0 k, LeO (pack_Sum.f k a0) (pack_Sum.f (k + 1) a0) := by
 intro a0 k
 obtain ⟨ih0, ih1⟩ := pack_Sum.mono_l k
 unfold pack_Sum.f
 repeat' with_reducible first | exact ih0 _ _ _ | exact ih1 _ _ _ _ | exact LeO.refl _ | exact LeO.none _ | refine LeO.ite ?_ ?_ | refine LeO.bind ?_ (fun _ => ?_)
theorem pack_Sum.calls (k : Nat) (a0 : ByteArray) (r : Int) (w : World) (h : pack_Sum.f k a0 = some r) :
  Calls Try.prog 92 #[.string a0] w fun e w' => e = .returned (.int .u16 r) ∧ Drawn0 w w' := by
 have H : (pack_Sum.l0 k a0 65535 0) = some r := h
 clear h
 have H' := a_ H
 clear H
 go_enter Try.func92, Try.ntmps92
 go_wp2
 repeat (go_step3; try (go_wp2))
 go_loopg [3, 4] k (fun kq v3 v4 w' => ∃ (x3_1 : Int) (x4_1 : Int), v3 = .int .u16 x3_1 ∧ v4 = .int .i64 x4_1 ∧ Aside0 (pack_Sum.l0 kq a0 x3_1 x4_1 = some r) ∧ Aside0 (kq ≤ k) ∧ Drawn0 w w')
 case atStart => exact ⟨(65535), (0), fz_, fz_, H', ⟨Nat.le_refl _⟩, dr_⟩
 case round =>
  clear H'
  obtain ⟨x3_1, x4_1, rfl, rfl, HA, HK1, ⟨m1, rfl⟩⟩ := hrel
  cases gk with
  | zero => exact absurd HA.out (by simp [pack_Sum.l0])
  | succ k1 =>
   have H := HA.out
   clear HA
   simp only [pack_Sum.l0] at H
   by_cases c2 : x4_1 = (a0.size : Int)
   ·rw [if_pos c2] at H
    have c2b0 : (x4_1 == (a0.size : Int)) = true := beq_iff_eq.mpr c2
    have c2b1 : (x4_1 != (a0.size : Int)) = false := bne_eq_false_iff_eq.mpr c2
    clear c2
    obtain rfl := Option.some.inj H
    go_wp2
    repeat (go_step3; try (go_wp2))
    try dsimp only [Exit.noGoto]
    go_ret
    exact ⟨fz_, dr_⟩
   rw [if_neg c2] at H
   have c2b0 : (x4_1 == (a0.size : Int)) = false := beq_eq_false_iff_ne.mpr c2
   have c2b1 : (x4_1 != (a0.size : Int)) = true := bne_iff_ne.mpr c2
   by_cases c3 : 0 ≤ x4_1
   rotate_left
   ·rw [if_neg c3] at H
    exact absurd H (by simp)


   rw [if_pos c3] at H
   have c3b0 : decide (0 ≤ x4_1) = true := decide_eq_true c3
   clear c3
   by_cases c4 : x4_1 < (a0.size : Int)
   rotate_left
   ·rw [if_neg c4] at H
    exact absurd H (by simp)
   rw [if_pos c4] at H
   have c4b0 : decide (x4_1 < (a0.size : Int)) = true := decide_eq_true c4
   clear c4
   have H' := a_ H
   clear H
   have p5 : 0 ≤ (x4_1 : Int) := od_
   have q5 : x4_1 < (a0.size : Int) := od_
   have hx5 := bt_at a0 x4_1
   replace p5 := eq_true p5
   replace q5 := eq_true q5
   go_wp2
   repeat (go_step3; try (go_wp2))
   go_loopg [3, 19] k1 (fun kq v3 v19 w' => ∃ (x3_2 : Int) (x19_2 : Int), v3 = .int .u16 x3_2 ∧ v19 = .int .i64 x19_2 ∧ Aside0 (pack_Sum.l1 kq a0 x3_2 x4_1 x19_2 = some r) ∧ Aside0 (kq ≤ k1) ∧ Drawn0 w w')
   case atStart => exact ⟨(Go.bits .xor .u16 x3_1 (IntKind.u16.wrap ((IntKind.u16.wrap (bt a0 x4_1)) * 256))), (0), fz_, fz_, H', ⟨Nat.le_refl _⟩, dr_⟩
   case round =>
    clear H'
    try clear c2
    try clear c2b0
    try clear c2b1
    try clear p2
    try clear c3
    try clear c3b0
    try clear c4
    try clear c4b0
    try clear p5
    try clear q5
    try clear hx5
    try clear p5
    try clear q5
    obtain ⟨x3_2, x19_2, rfl, rfl, HA, HK2, ⟨m2, rfl⟩⟩ := hrel
    cases gk with
    | zero => exact absurd HA.out (by simp [pack_Sum.l1])
    | succ k2 =>
     have H := HA.out
     clear HA
     simp only [pack_Sum.l1] at H
     by_cases c6 : x19_2 < 8
     rotate_left
     ·rw [if_neg c6] at H
      have c6b0 : decide (x19_2 < 8) = false := decide_eq_false c6
      clear c6
      have H' := a_ H
      clear H
      go_wp2
      repeat (go_step3; try (go_wp2))
      go_roundg k2
      case measure => have := HK1.out; have := HK2.out; omega
      case rel => exact ⟨(x3_2), (wrap64 (x4_1 + 1)), fz_, fz_, H', ⟨by have := HK1.out; have := HK2.out; omega⟩, dr_⟩
     rw [if_pos c6] at H
     have c6b0 : decide (x19_2 < 8) = true := decide_eq_true c6
     clear c6
     have H' := a_ H
     clear H
     go_wp2
     repeat (go_step3; try (go_wp2))
     go_roundg k2
     case measure => have := HK1.out; have := HK2.out; omega
     case rel => exact ⟨(Go.bits .xor .u16 (IntKind.u16.wrap (x3_2 * 2)) (IntKind.u16.wrap (4129 * (x3_2 / 32768)))), (wrap64 (x19_2 + 1)), fz_, fz_, H', ⟨by have := HK1.out; have := HK2.out; omega⟩, dr_⟩
/-! ### pack_Frame: function 59 -/
def pack_Frame.f (k : Nat) (a0 : ByteArray) : Option (ByteArray × Int) := if (a0.size : Int) > 65536 then (some ((⟨#[]⟩ : ByteArray), 2)) else ((pack_fixed.f k (IntKind.u64.wrap ((a0.size : Int))) 4).bind fun t203 => (if t203.size + a0.size ≤ 9223372036854775807 then ((pack_Sum.f k (t203 ++ a0)).bind fun t204 => ((pack_fixed.f k (IntKind.u64.wrap (t204)) 2).bind fun t205 => (if t203.size + t205.size ≤ 9223372036854775807 then (if (t203 ++ t205).size + a0.size ≤ 9223372036854775807 then (some ((t203 ++ t205) ++ a0, 0)) else (none)) else (none)))) else (none)))
theorem pack_Frame.mono : ∀ a0 k, LeO (pack_Frame.f k a0) (pack_Frame.f (k + 1) a0) := by
 intro a0 k
 unfold pack_Frame.f
 repeat' with_reducible first | exact pack_Sum.mono _ _ | exact pack_fixed.mono _ _ _ | exact LeO.refl _ | exact LeO.none _ | refine LeO.ite ?_ ?_ | refine LeO.bind ?_ (fun _ => ?_)
theorem pack_Frame.calls (k : Nat) (a0 : ByteArray) (r1 : ByteArray) (r2 : Int) (w : World) (h : pack_Frame.f k a0 = some (r1, r2)) :
  Calls Try.prog 59 #[.string a0] w fun e w' => e = .returned (.tuple #[.string r1, .int .i64 r2]) ∧ Below w.heap.size w w' := by
 have HB := a_ (Below.refl w.heap.size w)
 have H : (if (a0.size : Int) > 65536 then (some ((⟨#[]⟩ : ByteArray), 2)) else ((pack_fixed.f k (IntKind.u64.wrap ((a0.size : Int))) 4).bind fun t203 => (if t203.size + a0.size ≤ 9223372036854775807 then ((pack_Sum.f k (t203 ++ a0)).bind fun t204 => ((pack_fixed.f k (IntKind.u64.wrap (t204)) 2).bind fun t205 => (if t203.size + t205.size ≤ 9223372036854775807 then (if (t203 ++ t205).size + a0.size ≤ 9223372036854775807 then (some ((t203 ++ t205) ++ a0, 0)) else (none)) else (none)))) else (none)))) = some (r1, r2) := h
 clear h
 by_cases c2 : (a0.size : Int) > 65536
 ·rw [if_pos c2] at H
  have c2b0 : decide (65536 < (a0.size : Int)) = true := decide_eq_true c2
  have c2b1 : decide (65536 < a0.size) = true := decide_eq_true (by omega)
  clear c2
  simp only [Option.some.injEq, Prod.mk.injEq] at H
  obtain ⟨rfl, rfl⟩ := H
  go_enter Try.func59, Try.ntmps59
  go_wp2
  go_ret2
  exact ⟨fz_, bl_ HB⟩
 rw [if_neg c2] at H
 have c2b0 : decide (65536 < (a0.size : Int)) = false := decide_eq_false c2
 have c2b1 : decide (65536 < a0.size) = false := decide_eq_false (by omega)
 clear c2
 obtain ⟨t203, A30, H⟩ := Option.bind_eq_some_iff.mp H
 try dsimp only at H
 have A3 := a_ A30
 clear A30
 by_cases c4 : t203.size + a0.size ≤ 9223372036854775807
 rotate_left
 ·rw [if_neg c4] at H
  exact absurd H (by simp)


 rw [if_pos c4] at H
 have c4b0 := eq_true c4
 have c4b1 : decide (t203.size + a0.size ≤ 9223372036854775807) = true := decide_eq_true c4
 try have c4b2 : (9223372036854775807 < t203.size + a0.size) = False := eq_false (Nat.not_lt.2 c4)
 clear c4
 obtain ⟨t204, A50, H⟩ := Option.bind_eq_some_iff.mp H
 try dsimp only at H
 have A5 := a_ A50
 clear A50
 obtain ⟨t205, A60, H⟩ := Option.bind_eq_some_iff.mp H
 try dsimp only at H
 have A6 := a_ A60
 clear A60
 by_cases c7 : t203.size + t205.size ≤ 9223372036854775807
 rotate_left
 ·rw [if_neg c7] at H
  exact absurd H (by simp)
 rw [if_pos c7] at H
 have c7b0 := eq_true c7
 have c7b1 : decide (t203.size + t205.size ≤ 9223372036854775807) = true := decide_eq_true c7
 try have c7b2 : (9223372036854775807 < t203.size + t205.size) = False := eq_false (Nat.not_lt.2 c7)
 clear c7
 by_cases c8 : (t203 ++ t205).size + a0.size ≤ 9223372036854775807
 rotate_left
 ·rw [if_neg c8] at H
  exact absurd H (by simp)
 rw [if_pos c8] at H
 have c8b0 := eq_true c8
 have c8b1 : decide ((t203 ++ t205).size + a0.size ≤ 9223372036854775807) = true := decide_eq_true c8
 try have c8b2 : (9223372036854775807 < (t203 ++ t205).size + a0.size) = False := eq_false (Nat.not_lt.2 c8)
 clear c8
 simp only [Option.some.injEq, Prod.mk.injEq] at H
 obtain ⟨rfl, rfl⟩ := H
 (try (have c8b0x := c8b0; simp only [ByteArray.size_extract, ByteArray.size_append, Nat.min_self, Nat.sub_zero] at c8b0x))
 (try (have c8b1x := c8b1; simp only [ByteArray.size_extract, ByteArray.size_append, Nat.min_self, Nat.sub_zero] at c8b1x))
 (try (have c8b2x := c8b2; simp only [ByteArray.size_extract, ByteArray.size_append, Nat.min_self, Nat.sub_zero] at c8b2x))
 go_enter Try.func59, Try.ntmps59
 go_wp2_with (first | ((with_reducible refine gk_ 91 ?_); refine gl_ (some 11) Try.func91 #[.int .u64 (IntKind.u64.wrap ((a0.size : Int))), .int .i64 4] ?_; (with_reducible refine (pack_fixed.calls k (IntKind.u64.wrap ((a0.size : Int))) 4 t203 _ A3.out).mono ?_); rintro e w9 ⟨rfl, hb⟩; refine ⟨_, rfl, ?_⟩; replace HB := hB_ (bl_ HB) hb; (try clear hb)) | ((with_reducible refine gk_ 92 ?_); refine gl_ (some 16) Try.func92 #[.string (t203 ++ a0)] ?_; (with_reducible refine (pack_Sum.calls k (t203 ++ a0) t204 _ A5.out).mono ?_); rintro e w' ⟨rfl, ⟨nd, rfl⟩⟩; refine ⟨_, rfl, ?_⟩) | ((with_reducible refine gk_ 91 ?_); refine gl_ (some 18) Try.func91 #[.int .u64 (IntKind.u64.wrap (t204)), .int .i64 2] ?_; (with_reducible refine (pack_fixed.calls k (IntKind.u64.wrap (t204)) 2 t205 _ A6.out).mono ?_); rintro e w10 ⟨rfl, hb⟩; refine ⟨_, rfl, ?_⟩; replace HB := hB_ (bl_ HB) hb; (try clear hb)))
 go_ret2
 exact ⟨fz_, bl_ HB⟩
/-! ### pack_TakeFrame: function 38 -/
def pack_TakeFrame.j0 : Nat → ByteArray → Int → Bool → Option (ByteArray × ByteArray × Int)
 | 0, _, _, _ => none
 | k + 1, x0, x5, x18 => if x18 = true then (some ((⟨#[]⟩ : ByteArray), (⟨#[]⟩ : ByteArray), 3)) else (if 6 ≤ (wrap64 (6 + (wrap64 (x5)))) then (if (wrap64 (6 + (wrap64 (x5)))) ≤ (x0.size : Int) then ((pack_Frame.f k (x0.extract 6 ((wrap64 (6 + (wrap64 (x5)))) : Int).toNat)).bind fun bt207 => (if 0 ≤ (wrap64 (6 + (wrap64 (x5)))) then (if bt207.1.toList = (x0.extract 0 ((wrap64 (6 + (wrap64 (x5)))) : Int).toNat).toList then (some (x0.extract 6 ((wrap64 (6 + (wrap64 (x5)))) : Int).toNat, x0.extract ((wrap64 (6 + (wrap64 (x5)))) : Int).toNat x0.size, 0)) else (some ((⟨#[]⟩ : ByteArray), (⟨#[]⟩ : ByteArray), 4))) else (none))) else (none)) else (none))
def pack_TakeFrame.f (k : Nat) (a0 : ByteArray) : Option (ByteArray × ByteArray × Int) := if (a0.size : Int) < 4 then (some ((⟨#[]⟩ : ByteArray), (⟨#[]⟩ : ByteArray), 3)) else (if 0 ≤ 4 then (if 4 ≤ (a0.size : Int) then ((pack_value.f k (a0.extract 0 4)).bind fun t206 => (if t206 > 65536 then (some ((⟨#[]⟩ : ByteArray), (⟨#[]⟩ : ByteArray), 2)) else (if (a0.size : Int) < 6 then (pack_TakeFrame.j0 k a0 t206 true) else (pack_TakeFrame.j0 k a0 t206 (decide (t206 > (IntKind.u64.wrap (wrap64 ((a0.size : Int) - 6))))))))) else (none)) else (none))
theorem pack_TakeFrame.mono_l : ∀ k, (∀ y0 y1 y2, LeO (pack_TakeFrame.j0 k y0 y1 y2) (pack_TakeFrame.j0 (k + 1) y0 y1 y2))
 | 0 => fun _ _ _ r h => by simp [pack_TakeFrame.j0] at h
 | k + 1 => by
  have ih0 := pack_TakeFrame.mono_l k
  ·intro y0 y1 y2
   unfold pack_TakeFrame.j0
   repeat' with_reducible first | exact ih0 _ _ _ | exact pack_Frame.mono _ _ | exact pack_value.mono _ _ | exact LeO.refl _ | exact LeO.none _ | refine LeO.ite ?_ ?_ | refine LeO.bind ?_ (fun _ => ?_)
theorem pack_TakeFrame.mono : ∀ a0 k, LeO (pack_TakeFrame.f k a0) (pack_TakeFrame.f (k + 1) a0) := by
 intro a0 k
 have ih0 := pack_TakeFrame.mono_l k
 unfold pack_TakeFrame.f
 repeat' with_reducible first | exact ih0 _ _ _ | exact pack_Frame.mono _ _ | exact pack_value.mono _ _ | exact LeO.refl _ | exact LeO.none _ | refine LeO.ite ?_ ?_ | refine LeO.bind ?_ (fun _ => ?_)
theorem pack_TakeFrame.calls (k : Nat) (a0 : ByteArray) (r1 : ByteArray) (r2 : ByteArray) (r3 : Int) (w : World) (h : pack_TakeFrame.f k a0 = some (r1, r2, r3)) :
  Calls Try.prog 38 #[.string a0] w fun e w' => e = .returned (.tuple #[.string r1, .string r2, .int .i64 r3]) ∧ Below w.heap.size w w' := by
 have HB := a_ (Below.refl w.heap.size w)
 have H : (if (a0.size : Int) < 4 then (some ((⟨#[]⟩ : ByteArray), (⟨#[]⟩ : ByteArray), 3)) else (if 0 ≤ 4 then (if 4 ≤ (a0.size : Int) then ((pack_value.f k (a0.extract 0 4)).bind fun t206 => (if t206 > 65536 then (some ((⟨#[]⟩ : ByteArray), (⟨#[]⟩ : ByteArray), 2)) else (if (a0.size : Int) < 6 then (pack_TakeFrame.j0 k a0 t206 true) else (pack_TakeFrame.j0 k a0 t206 (decide (t206 > (IntKind.u64.wrap (wrap64 ((a0.size : Int) - 6))))))))) else (none)) else (none))) = some (r1, r2, r3) := h
 clear h
 by_cases c2 : (a0.size : Int) < 4
 ·rw [if_pos c2] at H
  have c2b0 : decide ((a0.size : Int) < 4) = true := decide_eq_true c2
  have c2b1 : decide (a0.size < 4) = true := decide_eq_true (by omega)
  clear c2
  simp only [Option.some.injEq, Prod.mk.injEq] at H
  obtain ⟨rfl, rfl, rfl⟩ := H
  go_enter Try.func38, Try.ntmps38
  go_wp2
  repeat (go_quiet (fail); try go_wp2)
  go_ret3
  exact ⟨fz_, bl_ HB⟩
 rw [if_neg c2] at H
 have c2b0 : decide ((a0.size : Int) < 4) = false := decide_eq_false c2
 have c2b1 : decide (a0.size < 4) = false := decide_eq_false (by omega)
 clear c2
 by_cases c3 : 0 ≤ 4
 rotate_left
 ·rw [if_neg c3] at H
  exact absurd H (by simp)


 rw [if_pos c3] at H
 have c3b0 := eq_true c3
 have c3b1 : decide (0 ≤ 4) = true := decide_eq_true c3
 clear c3
 by_cases c4 : 4 ≤ (a0.size : Int)
 rotate_left
 ·rw [if_neg c4] at H
  exact absurd H (by simp)
 rw [if_pos c4] at H
 have c4b0 := eq_true c4
 have c4b1 : decide (4 ≤ (a0.size : Int)) = true := decide_eq_true c4
 clear c4
 obtain ⟨t206, A50, H⟩ := Option.bind_eq_some_iff.mp H
 try dsimp only at H
 have A5 := a_ A50
 clear A50
 by_cases c6 : t206 > 65536
 ·rw [if_pos c6] at H
  have c6b0 : decide (65536 < t206) = true := decide_eq_true c6
  clear c6
  simp only [Option.some.injEq, Prod.mk.injEq] at H
  obtain ⟨rfl, rfl, rfl⟩ := H
  go_enter Try.func38, Try.ntmps38
  go_wp2_with (first | (first | (go_at_call 61; (with_reducible refine (pack_value.calls k (a0.extract 0 4) t206 _ A5.out).mono ?_); rintro e w' ⟨rfl, ⟨nd, rfl⟩⟩; (try first | exact ⟨rfl, _, World.drewN_drewN _ _ _⟩ | exact ⟨rfl, _, Eq.trans (World.drewN_drewN _ _ _) (congrArg (World.drewN _) (Nat.add_assoc _ _ _))⟩))) | go_quiet (first | (go_at_call 61; (with_reducible refine (pack_value.calls k (a0.extract 0 4) t206 _ A5.out).mono ?_); rintro e w' ⟨rfl, ⟨nd, rfl⟩⟩; (try first | exact ⟨rfl, _, World.drewN_drewN _ _ _⟩ | exact ⟨rfl, _, Eq.trans (World.drewN_drewN _ _ _) (congrArg (World.drewN _) (Nat.add_assoc _ _ _))⟩))))
  go_ret3
  exact ⟨fz_, bl_ HB⟩
 rw [if_neg c6] at H
 have c6b0 : decide (65536 < t206) = false := decide_eq_false c6
 clear c6
 have HC7 := a_ H
 clear H
 go_enter Try.func38, Try.ntmps38
 go_upto_region 6 with (first | (go_at_call 61; (with_reducible refine (pack_value.calls k (a0.extract 0 4) t206 _ A5.out).mono ?_); rintro e w' ⟨rfl, ⟨nd, rfl⟩⟩; (try first | exact ⟨rfl, _, World.drewN_drewN _ _ _⟩ | exact ⟨rfl, _, Eq.trans (World.drewN_drewN _ _ _) (congrArg (World.drewN _) (Nat.add_assoc _ _ _))⟩)))
 repeat (go_quiet (first | (go_at_call 61; (with_reducible refine (pack_value.calls k (a0.extract 0 4) t206 _ A5.out).mono ?_); rintro e w' ⟨rfl, ⟨nd, rfl⟩⟩; (try first | exact ⟨rfl, _, World.drewN_drewN _ _ _⟩ | exact ⟨rfl, _, Eq.trans (World.drewN_drewN _ _ _) (congrArg (World.drewN _) (Nat.add_assoc _ _ _))⟩))); go_upto_region 6 with (first | (go_at_call 61; (with_reducible refine (pack_value.calls k (a0.extract 0 4) t206 _ A5.out).mono ?_); rintro e w' ⟨rfl, ⟨nd, rfl⟩⟩; (try first | exact ⟨rfl, _, World.drewN_drewN _ _ _⟩ | exact ⟨rfl, _, Eq.trans (World.drewN_drewN _ _ _) (congrArg (World.drewN _) (Nat.add_assoc _ _ _))⟩))))
 (try simp only [Act.put, List.setIfInBounds_toArray, List.set_cons_zero, List.set_cons_succ])
 go_cut [18] (fun v18 wc => ∃ (kq : Nat) (x18_6 : Bool), v18 = .bool x18_6 ∧ Aside0 (pack_TakeFrame.j0 kq a0 t206 x18_6 = some (r1, r2, r3)) ∧ Aside0 (kq ≤ k) ∧ Aside0 (Below w.heap.size w wc))
 case first =>
  have H := HC7.out
  clear HC7
  by_cases c8 : (a0.size : Int) < 6
  ·rw [if_pos c8] at H
   have c8b0 : decide ((a0.size : Int) < 6) = true := decide_eq_true c8
   have c8b1 : decide (a0.size < 6) = true := decide_eq_true (by omega)
   clear c8
   (first | rw [c8b0] | (simp only [i64_w, i32_w]; rw [c8b0]) | skip)
   have H' := a_ H
   clear H
   go_wp2
   repeat (go_quiet (fail); try go_wp2)
   go_meet
   case rel => exact ⟨_, (true), fz_, H', ⟨by first | omega | exact Nat.le_refl _⟩, ⟨bl_ HB⟩⟩
  rw [if_neg c8] at H
  have c8b0 : decide ((a0.size : Int) < 6) = false := decide_eq_false c8
  have c8b1 : decide (a0.size < 6) = false := decide_eq_false (by omega)
  clear c8
  (first | rw [c8b0] | (simp only [i64_w, i32_w]; rw [c8b0]) | skip)
  have H' := a_ H
  clear H
  go_wp2
  repeat (go_quiet (fail); try go_wp2)
  go_meet
  case rel => exact ⟨_, (decide (t206 > (IntKind.u64.wrap (wrap64 ((a0.size : Int) - 6))))), fz_, H', ⟨by first | omega | exact Nat.le_refl _⟩, ⟨bl_ HB⟩⟩
 case rest =>
  clear HC7
  try clear c2
  try clear c2b0
  try clear c2b1
  try clear p2
  try clear c3
  try clear c3b0
  try clear c3b1
  try clear c4
  try clear c4b0
  try clear c4b1
  try clear c6
  try clear c6b0
  try clear p6
  try clear c8
  try clear c8b0
  try clear c8b1
  obtain ⟨kq, x18_6, rfl, HA, HJ6, HB⟩ := hcut
  cases kq with
  | zero => exact absurd HA.out (by simp [pack_TakeFrame.j0])
  | succ kj6 =>
   have H := HA.out
   clear HA
   simp only [pack_TakeFrame.j0] at H
   by_cases c9 : x18_6 = true
   ·subst c9
    have H1 : (some ((⟨#[]⟩ : ByteArray), (⟨#[]⟩ : ByteArray), 3)) = some (r1, r2, r3) := by rw [if_pos rfl] at H; exact H
    clear H
    have H := H1
    clear H1
    simp only [Option.some.injEq, Prod.mk.injEq] at H
    obtain ⟨rfl, rfl, rfl⟩ := H
    go_wp2
    repeat (go_quiet (fail); try go_wp2)
    go_ret3
    exact ⟨fz_, bl_ HB⟩
   replace c9 := Bool.eq_false_iff.mpr c9
   subst c9
   have H1 : (if 6 ≤ (wrap64 (6 + (wrap64 (t206)))) then (if (wrap64 (6 + (wrap64 (t206)))) ≤ (a0.size : Int) then ((pack_Frame.f kj6 (a0.extract 6 ((wrap64 (6 + (wrap64 (t206)))) : Int).toNat)).bind fun bt207 => (if 0 ≤ (wrap64 (6 + (wrap64 (t206)))) then (if bt207.1.toList = (a0.extract 0 ((wrap64 (6 + (wrap64 (t206)))) : Int).toNat).toList then (some (a0.extract 6 ((wrap64 (6 + (wrap64 (t206)))) : Int).toNat, a0.extract ((wrap64 (6 + (wrap64 (t206)))) : Int).toNat a0.size, 0)) else (some ((⟨#[]⟩ : ByteArray), (⟨#[]⟩ : ByteArray), 4))) else (none))) else (none)) else (none)) = some (r1, r2, r3) := by rw [if_neg (show ¬ (false = true) by decide)] at H; exact H
   clear H
   have H := H1
   clear H1
   by_cases c10 : 6 ≤ (wrap64 (6 + (wrap64 (t206))))
   rotate_left
   ·rw [if_neg c10] at H
    exact absurd H (by simp)
   rw [if_pos c10] at H
   have c10b0 := eq_true c10
   have c10b1 : decide (6 ≤ (wrap64 (6 + (wrap64 (t206))))) = true := decide_eq_true c10
   clear c10
   by_cases c11 : (wrap64 (6 + (wrap64 (t206)))) ≤ (a0.size : Int)
   rotate_left
   ·rw [if_neg c11] at H
    exact absurd H (by simp)
   rw [if_pos c11] at H
   have c11b0 := eq_true c11
   have c11b1 : decide ((wrap64 (6 + (wrap64 (t206)))) ≤ (a0.size : Int)) = true := decide_eq_true c11
   clear c11
   obtain ⟨⟨t207, t208⟩, A120, H⟩ := Option.bind_eq_some_iff.mp H
   try dsimp only at H
   have A12 := a_ A120
   clear A120
   obtain ⟨ji13, hji13⟩ : ∃ j_ : Int, (wrap64 (6 + (wrap64 (t206)))) = j_ := ⟨_, rfl⟩
   replace H : (if 0 ≤ (ji13) then (if t207.toList = (a0.extract 0 ((ji13) : Int).toNat).toList then (some (a0.extract 6 ((ji13) : Int).toNat, a0.extract ((ji13) : Int).toNat a0.size, 0)) else (some ((⟨#[]⟩ : ByteArray), (⟨#[]⟩ : ByteArray), 4))) else (none)) = some (r1, r2, r3) := by first | (rw [hji13] at H; exact H) | (simp only [hji13] at H ⊢; exact H)
   (try rw [hji13] at c10b0)
   (try rw [hji13] at c10b1)
   (try rw [hji13] at c11b0)
   (try rw [hji13] at c11b1)
   (try rw [hji13] at A12)
   have hji13w : (IntKind.i64.wrap (6 + (wrap64 (t206)))) = ji13 := (i64_w _).trans hji13
   by_cases c14 : 0 ≤ (ji13)
   rotate_left
   ·rw [if_neg c14] at H
    exact absurd H (by simp)
   rw [if_pos c14] at H
   have c14b0 := eq_true c14
   have c14b1 : decide (0 ≤ (ji13)) = true := decide_eq_true c14
   clear c14
   have c15b0 := eq_true (od_ : (ji13) ≤ (a0.size : Int))
   by_cases c16 : t207.toList = (a0.extract 0 ((ji13) : Int).toNat).toList
   rotate_left
   ·rw [if_neg c16] at H
    have c16b0 : (t207.toList == (a0.extract 0 ((ji13) : Int).toNat).toList) = false := beq_eq_false_iff_ne.mpr c16
    have c16b1 : (t207.toList != (a0.extract 0 ((ji13) : Int).toNat).toList) = true := bne_iff_ne.mpr c16
    simp only [Option.some.injEq, Prod.mk.injEq] at H
    obtain ⟨rfl, rfl, rfl⟩ := H
    go_wp2_with (first | (first | (go_at_call 59; (with_reducible refine (pack_Frame.calls kj6 (a0.extract 6 ((ji13) : Int).toNat) t207 t208 _ A12.out).mono ?_); rintro e w22 ⟨rfl, hb⟩; replace HB := hB_ (bl_ HB) hb; (try clear hb))) | go_quiet (first | (go_at_call 59; (with_reducible refine (pack_Frame.calls kj6 (a0.extract 6 ((ji13) : Int).toNat) t207 t208 _ A12.out).mono ?_); rintro e w22 ⟨rfl, hb⟩; replace HB := hB_ (bl_ HB) hb; (try clear hb))))
    go_ret3
    exact ⟨by first | rfl | (simp [errW_none, errW_some] <;> rfl) | (simp only [← hji13]; first | rfl | (simp [errW_none, errW_some] <;> rfl)) | (simp [*, errW_none, errW_some] <;> rfl), bl_ HB⟩
   rw [if_pos c16] at H
   have c16b0 : (t207.toList == (a0.extract 0 ((ji13) : Int).toNat).toList) = true := beq_iff_eq.mpr c16
   have c16b1 : (t207.toList != (a0.extract 0 ((ji13) : Int).toNat).toList) = false := bne_eq_false_iff_eq.mpr c16
   clear c16
   have c17b0 := eq_true (od_ : 6 ≤ (ji13))
   have c18b0 := eq_true (od_ : (ji13) ≤ (a0.size : Int))
   have c19b0 := eq_true (od_ : 0 ≤ (ji13))
   have c20b0 := eq_true (od_ : (ji13) ≤ (a0.size : Int))
   simp only [Option.some.injEq, Prod.mk.injEq] at H
   obtain ⟨rfl, rfl, rfl⟩ := H
   go_wp2_with (first | (first | (go_at_call 59; (with_reducible refine (pack_Frame.calls kj6 (a0.extract 6 ((ji13) : Int).toNat) t207 t208 _ A12.out).mono ?_); rintro e w21 ⟨rfl, hb⟩; replace HB := hB_ (bl_ HB) hb; (try clear hb))) | go_quiet (first | (go_at_call 59; (with_reducible refine (pack_Frame.calls kj6 (a0.extract 6 ((ji13) : Int).toNat) t207 t208 _ A12.out).mono ?_); rintro e w21 ⟨rfl, hb⟩; replace HB := hB_ (bl_ HB) hb; (try clear hb))))
   go_ret3
   exact ⟨by first | rfl | (simp [errW_none, errW_some] <;> rfl) | (simp only [← hji13]; first | rfl | (simp [errW_none, errW_some] <;> rfl)) | (simp [*, errW_none, errW_some] <;> rfl), bl_ HB⟩
/-! ### snap_Load: function 33 -/
def snap_Load.f (k : Nat) (l0_0 : List (S71)) (a0_1 : Bool) (a0_2 : Int) : Option (Int × Int × List Int × ByteArray × Int) := (disk_Read.f k l0_0 a0_1 a0_2 (⟨#[115, 110, 97, 112]⟩ : ByteArray)).bind fun bt211 => (if bt211.2 = 6 then (some (0, 0, ([] : List Int), (⟨#[]⟩ : ByteArray), 0)) else (if bt211.2 = 0 then ((pack_TakeFrame.f k bt211.1).bind fun bt213 => ((snap_Decode.f k bt213.1).bind fun bt216 => (if bt213.2.2 = 0 then (if bt216.2.2.2.2 = 0 then (if bt213.2.1.toList = ([] : List UInt8) then (some (bt216.1, bt216.2.1, bt216.2.2.1, bt216.2.2.2.1, 0)) else (some (0, 0, ([] : List Int), (⟨#[]⟩ : ByteArray), 4))) else (some (0, 0, ([] : List Int), (⟨#[]⟩ : ByteArray), 4))) else (some (0, 0, ([] : List Int), (⟨#[]⟩ : ByteArray), 4))))) else (some (0, 0, ([] : List Int), (⟨#[]⟩ : ByteArray), bt211.2))))
theorem snap_Load.mono : ∀ a0 a1 a2 k, LeO (snap_Load.f k a0 a1 a2) (snap_Load.f (k + 1) a0 a1 a2) := by
 intro a0 a1 a2 k
 unfold snap_Load.f
 repeat' with_reducible first | exact disk_Read.mono _ _ _ _ _ | exact pack_TakeFrame.mono _ _ | exact snap_Decode.mono _ _ | exact LeO.refl _ | exact LeO.none _ | refine LeO.ite ?_ ?_ | refine LeO.bind ?_ (fun _ => ?_)
theorem snap_Load.calls (k : Nat) (A0_0 : Option Addr) (c0_0 : Nat) (l0_0 : List (S71)) (a0_1 : Bool) (a0_2 : Int) (r1 : Int) (r2 : Int) (r3 : List Int) (r4 : ByteArray) (r5 : Int) (w : World) (hr0_0 : Kd.C k71 w A0_0 l0_0.length l0_0) (hc0_0 : l0_0.length ≤ c0_0) (h : snap_Load.f k l0_0 a0_1 a0_2 = some (r1, r2, r3, r4, r5)) :
  Calls Try.prog 33 #[.agg #[.slice A0_0 l0_0.length c0_0, .bool a0_1, .int .i64 a0_2]] w fun e w' => ∃ v2_ : Value, e = .returned (.tuple #[.agg #[.int .u64 r1, .int .u64 r2, v2_, .string r4], .int .i64 r5]) ∧ Kd.R (Kd.int .i64) 3 w' w.heap.size (fun _ => True) v2_ r3 ∧ Below w.heap.size w w' := by
 have hu24 := Try.underlying24
 have hu48 := Try.underlying48
 have HR0_0 := a_ hr0_0
 have HC0_0 := a_ hc0_0
 clear hr0_0 hc0_0
 have HB := a_ (Below.refl w.heap.size w)
 have H : ((disk_Read.f k l0_0 a0_1 a0_2 (⟨#[115, 110, 97, 112]⟩ : ByteArray)).bind fun bt211 => (if bt211.2 = 6 then (some (0, 0, ([] : List Int), (⟨#[]⟩ : ByteArray), 0)) else (if bt211.2 = 0 then ((pack_TakeFrame.f k bt211.1).bind fun bt213 => ((snap_Decode.f k bt213.1).bind fun bt216 => (if bt213.2.2 = 0 then (if bt216.2.2.2.2 = 0 then (if bt213.2.1.toList = ([] : List UInt8) then (some (bt216.1, bt216.2.1, bt216.2.2.1, bt216.2.2.2.1, 0)) else (some (0, 0, ([] : List Int), (⟨#[]⟩ : ByteArray), 4))) else (some (0, 0, ([] : List Int), (⟨#[]⟩ : ByteArray), 4))) else (some (0, 0, ([] : List Int), (⟨#[]⟩ : ByteArray), 4))))) else (some (0, 0, ([] : List Int), (⟨#[]⟩ : ByteArray), bt211.2))))) = some (r1, r2, r3, r4, r5) := h
 clear h
 obtain ⟨⟨t211, t212⟩, A20, H⟩ := Option.bind_eq_some_iff.mp H
 try dsimp only at H
 have A2 := a_ A20
 clear A20
 by_cases c3 : t212 = 6
 ·rw [if_pos c3] at H
  have c3b0 : (t212 == 6) = true := beq_iff_eq.mpr c3
  have c3b1 : (t212 != 6) = false := bne_eq_false_iff_eq.mpr c3
  clear c3
  simp only [Option.some.injEq, Prod.mk.injEq] at H
  obtain ⟨rfl, rfl, rfl, rfl, rfl⟩ := H
  go_enter Try.func33, Try.ntmps33
  go_wp2_with (first | ((with_reducible refine gd_ 1 ?_); refine bx_ 1 #[.slice A0_0 l0_0.length c0_0, .bool a0_1, .int .i64 a0_2] 24 ?_; intro gb209 hg w4 hbox hb; have BK209 := a_ (hbox); have GE209 := a_ (bs_0 hg HB); replace HB := hB_ (bl_ HB) hb; clear hb hbox hg) | ((with_reducible refine gd_ 2 ?_); refine bx_ 2 #[.int .u64 0, .int .u64 0, .slice none 0 0, .string (⟨#[]⟩ : ByteArray)] 48 ?_; intro gb210 hg w5 hbox hb; have BK210 := a_ (hbox); have GE210 := a_ (bs_1 hg HB GE209); replace HB := hB_ (bl_1 HB GE209) hb; have NB209_210 := nB_ hg BK209; have NB210_209 := nC_ hg BK209; replace BK209 := bB_ BK209 hb; clear hb hbox hg; have hnb6 := NB209_210.out; have hnc6 := NB210_209.out; obtain ⟨hcz7_0, hcz7_1, hcz7_2, hfz7_0, hfz7_1, hfz7_2⟩ := c3_ BK209) | ((with_reducible refine gk_ 24 ?_); refine gl_ (some 12) Try.func24 #[.agg #[.slice A0_0 l0_0.length c0_0, .bool a0_1, .int .i64 a0_2], .string (⟨#[115, 110, 97, 112]⟩ : ByteArray)] ?_; (with_reducible refine (disk_Read.calls k _ _ l0_0 a0_1 a0_2 (⟨#[115, 110, 97, 112]⟩ : ByteArray) t211 t212 _ ?side1 ?side2 A2.out).mono ?_); (case side1 => exact cl_ (Kd.C_below HR0_0.out HB.out)); (case side2 => exact HC0_0.out); rintro e w8 ⟨rfl, hb⟩; refine ⟨_, rfl, ?_⟩; replace BK209 := bB_ BK209 hb; replace BK210 := bB_ BK210 hb; replace HB := hB_ (bl_2 HB GE209 GE210) hb; (try clear hb); obtain ⟨hcz9_0, hcz9_1, hcz9_2, hcz9_3, hfz9_0, hfz9_1, hfz9_2, hfz9_3⟩ := c4_ BK210))
  refine bodyPost_ret (results_ct rfl _ _ gb210 48 #[.int .u64 0, .int .u64 0, .slice none 0 0, .string (⟨#[]⟩ : ByteArray)] (0, 0) _ rfl (bp_0 BK210) Try.underlying48 rfl (by kernel_rfl)) rfl ?_
  exact ⟨_, fz_, by first | exact Kd.R_nil _ _ _ _ _ | exact Kd.N_nil _ _ _ _ _ | exact Kd.V_nil _ _ _ _ _ | exact Kd.Q_nil _ _ _ _ _ | exact Kd.S_nil _ _ _ _ _, bl_2 HB GE209 GE210⟩
 rw [if_neg c3] at H
 have c3b0 : (t212 == 6) = false := beq_eq_false_iff_ne.mpr c3
 have c3b1 : (t212 != 6) = true := bne_iff_ne.mpr c3
 by_cases c10 : t212 = 0
 rotate_left
 ·rw [if_neg c10] at H
  have c10b0 : (t212 == 0) = false := beq_eq_false_iff_ne.mpr c10
  have c10b1 : (t212 != 0) = true := bne_iff_ne.mpr c10
  simp only [Option.some.injEq, Prod.mk.injEq] at H
  obtain ⟨rfl, rfl, rfl, rfl, rfl⟩ := H
  go_enter Try.func33, Try.ntmps33
  go_wp2_with (first | ((with_reducible refine gd_ 1 ?_); refine bx_ 1 #[.slice A0_0 l0_0.length c0_0, .bool a0_1, .int .i64 a0_2] 24 ?_; intro gb209 hg w68 hbox hb; have BK209 := a_ (hbox); have GE209 := a_ (bs_0 hg HB); replace HB := hB_ (bl_ HB) hb; clear hb hbox hg) | ((with_reducible refine gd_ 2 ?_); refine bx_ 2 #[.int .u64 0, .int .u64 0, .slice none 0 0, .string (⟨#[]⟩ : ByteArray)] 48 ?_; intro gb210 hg w69 hbox hb; have BK210 := a_ (hbox); have GE210 := a_ (bs_1 hg HB GE209); replace HB := hB_ (bl_1 HB GE209) hb; have NB209_210 := nB_ hg BK209; have NB210_209 := nC_ hg BK209; replace BK209 := bB_ BK209 hb; clear hb hbox hg; have hnb70 := NB209_210.out; have hnc70 := NB210_209.out; obtain ⟨hcz71_0, hcz71_1, hcz71_2, hfz71_0, hfz71_1, hfz71_2⟩ := c3_ BK209) | ((with_reducible refine gk_ 24 ?_); refine gl_ (some 12) Try.func24 #[.agg #[.slice A0_0 l0_0.length c0_0, .bool a0_1, .int .i64 a0_2], .string (⟨#[115, 110, 97, 112]⟩ : ByteArray)] ?_; (with_reducible refine (disk_Read.calls k _ _ l0_0 a0_1 a0_2 (⟨#[115, 110, 97, 112]⟩ : ByteArray) t211 t212 _ ?side1 ?side2 A2.out).mono ?_); (case side1 => exact cl_ (Kd.C_below HR0_0.out HB.out)); (case side2 => exact HC0_0.out); rintro e w72 ⟨rfl, hb⟩; refine ⟨_, rfl, ?_⟩; replace BK209 := bB_ BK209 hb; replace BK210 := bB_ BK210 hb; replace HB := hB_ (bl_2 HB GE209 GE210) hb; (try clear hb); obtain ⟨hcz73_0, hcz73_1, hcz73_2, hcz73_3, hfz73_0, hfz73_1, hfz73_2, hfz73_3⟩ := c4_ BK210))
  refine bodyPost_ret (results_ct rfl _ _ gb210 48 #[.int .u64 0, .int .u64 0, .slice none 0 0, .string (⟨#[]⟩ : ByteArray)] (0, 0) _ rfl (bp_0 BK210) Try.underlying48 rfl (by kernel_rfl)) rfl ?_
  exact ⟨_, fz_, by first | exact Kd.R_nil _ _ _ _ _ | exact Kd.N_nil _ _ _ _ _ | exact Kd.V_nil _ _ _ _ _ | exact Kd.Q_nil _ _ _ _ _ | exact Kd.S_nil _ _ _ _ _, bl_2 HB GE209 GE210⟩


 rw [if_pos c10] at H
 have c10b0 : (t212 == 0) = true := beq_iff_eq.mpr c10
 have c10b1 : (t212 != 0) = false := bne_eq_false_iff_eq.mpr c10
 clear c10
 obtain ⟨⟨t213, t214, t215⟩, A110, H⟩ := Option.bind_eq_some_iff.mp H
 try dsimp only at H
 have A11 := a_ A110
 clear A110
 obtain ⟨⟨t216, t217, t218, t221, t222⟩, A120, H⟩ := Option.bind_eq_some_iff.mp H
 try dsimp only at H
 have A12 := a_ A120
 clear A120
 by_cases c13 : t215 = 0
 rotate_left
 ·rw [if_neg c13] at H
  have c13b0 : (t215 == 0) = false := beq_eq_false_iff_ne.mpr c13
  have c13b1 : (t215 != 0) = true := bne_iff_ne.mpr c13
  simp only [Option.some.injEq, Prod.mk.injEq] at H
  obtain ⟨rfl, rfl, rfl, rfl, rfl⟩ := H
  go_enter Try.func33, Try.ntmps33
  go_wp2_with (first | ((with_reducible refine gd_ 1 ?_); refine bx_ 1 #[.slice A0_0 l0_0.length c0_0, .bool a0_1, .int .i64 a0_2] 24 ?_; intro gb209 hg w55 hbox hb; have BK209 := a_ (hbox); have GE209 := a_ (bs_0 hg HB); replace HB := hB_ (bl_ HB) hb; clear hb hbox hg) | ((with_reducible refine gd_ 2 ?_); refine bx_ 2 #[.int .u64 0, .int .u64 0, .slice none 0 0, .string (⟨#[]⟩ : ByteArray)] 48 ?_; intro gb210 hg w56 hbox hb; have BK210 := a_ (hbox); have GE210 := a_ (bs_1 hg HB GE209); replace HB := hB_ (bl_1 HB GE209) hb; have NB209_210 := nB_ hg BK209; have NB210_209 := nC_ hg BK209; replace BK209 := bB_ BK209 hb; clear hb hbox hg; have hnb57 := NB209_210.out; have hnc57 := NB210_209.out; obtain ⟨hcz58_0, hcz58_1, hcz58_2, hfz58_0, hfz58_1, hfz58_2⟩ := c3_ BK209) | ((with_reducible refine gk_ 24 ?_); refine gl_ (some 12) Try.func24 #[.agg #[.slice A0_0 l0_0.length c0_0, .bool a0_1, .int .i64 a0_2], .string (⟨#[115, 110, 97, 112]⟩ : ByteArray)] ?_; (with_reducible refine (disk_Read.calls k _ _ l0_0 a0_1 a0_2 (⟨#[115, 110, 97, 112]⟩ : ByteArray) t211 t212 _ ?side1 ?side2 A2.out).mono ?_); (case side1 => exact cl_ (Kd.C_below HR0_0.out HB.out)); (case side2 => exact HC0_0.out); rintro e w59 ⟨rfl, hb⟩; refine ⟨_, rfl, ?_⟩; replace BK209 := bB_ BK209 hb; replace BK210 := bB_ BK210 hb; replace HB := hB_ (bl_2 HB GE209 GE210) hb; (try clear hb)) | ((with_reducible refine gk_ 38 ?_); refine gl_ (some 26) Try.func38 #[.string t211] ?_; (with_reducible refine (pack_TakeFrame.calls k t211 t213 t214 t215 _ A11.out).mono ?_); rintro e w60 ⟨rfl, hb⟩; refine ⟨_, rfl, ?_⟩; replace BK209 := bB_ BK209 hb; replace BK210 := bB_ BK210 hb; replace HB := hB_ (bl_2 HB GE209 GE210) hb; (try clear hb)) | ((with_reducible refine gk_ 27 ?_); refine gl_ (some 32) Try.func27 #[.string t213] ?_; (with_reducible refine (snap_Decode.calls k t213 t216 t217 t218 t221 t222 _ A12.out).mono ?_); rintro e w61 ⟨v219, rfl, ho0, hb⟩; refine ⟨_, rfl, ?_⟩; have HO220 := a_ (Kd.R_lower ho0 (below_size (bl_2 HB GE209 GE210))); replace BK209 := bB_ BK209 hb; replace BK210 := bB_ BK210 hb; replace HB := hB_ (bl_2 HB GE209 GE210) hb; (try clear hb); (try clear ho0)) | ((with_reducible refine gd_ 8 ?_); refine bx_ 8 #[.int .u64 0, .int .u64 0, .slice none 0 0, .string (⟨#[]⟩ : ByteArray)] 48 ?_; intro gb223 hg w62 hbox hb; replace HO220 := a_ (Kd.R_below (by refine rq_ ?_; exact HO220.out) hb); have BK223 := a_ (hbox); have GE223 := a_ (bs_2 hg HB GE209 GE210); replace HB := hB_ (bl_2 HB GE209 GE210) hb; have NB209_223 := nB_ hg BK209; have NB223_209 := nC_ hg BK209; replace BK209 := bB_ BK209 hb; have NB210_223 := nB_ hg BK210; have NB223_210 := nC_ hg BK210; replace BK210 := bB_ BK210 hb; clear hb hbox hg; have hnb63 := NB223_209.out; have hnc63 := NB209_223.out; have hnb64 := NB223_210.out; have hnc64 := NB210_223.out; obtain ⟨hcz65_0, hcz65_1, hcz65_2, hcz65_3, hfz65_0, hfz65_1, hfz65_2, hfz65_3⟩ := c4_ BK223; obtain ⟨Ao66, co66, eo66⟩ := Kd.R_slice HO220.out; subst eo66; obtain ⟨hcz67_0, hcz67_1, hcz67_2, hcz67_3, hfz67_0, hfz67_1, hfz67_2, hfz67_3⟩ := c4_ BK210))
  refine bodyPost_ret (results_ct rfl _ _ gb210 48 #[.int .u64 0, .int .u64 0, .slice none 0 0, .string (⟨#[]⟩ : ByteArray)] (0, 0) _ rfl (bp_1 BK210 NB210_223) Try.underlying48 rfl (by kernel_rfl)) rfl ?_
  exact ⟨_, fz_, by first | exact Kd.R_nil _ _ _ _ _ | exact Kd.N_nil _ _ _ _ _ | exact Kd.V_nil _ _ _ _ _ | exact Kd.Q_nil _ _ _ _ _ | exact Kd.S_nil _ _ _ _ _, bl_3 HB GE209 GE210 GE223⟩
 rw [if_pos c13] at H
 have c13b0 : (t215 == 0) = true := beq_iff_eq.mpr c13
 have c13b1 : (t215 != 0) = false := bne_eq_false_iff_eq.mpr c13
 clear c13
 by_cases c14 : t222 = 0
 rotate_left
 ·rw [if_neg c14] at H
  have c14b0 : (t222 == 0) = false := beq_eq_false_iff_ne.mpr c14
  have c14b1 : (t222 != 0) = true := bne_iff_ne.mpr c14
  simp only [Option.some.injEq, Prod.mk.injEq] at H
  obtain ⟨rfl, rfl, rfl, rfl, rfl⟩ := H
  go_enter Try.func33, Try.ntmps33
  go_wp2_with (first | ((with_reducible refine gd_ 1 ?_); refine bx_ 1 #[.slice A0_0 l0_0.length c0_0, .bool a0_1, .int .i64 a0_2] 24 ?_; intro gb209 hg w42 hbox hb; have BK209 := a_ (hbox); have GE209 := a_ (bs_0 hg HB); replace HB := hB_ (bl_ HB) hb; clear hb hbox hg) | ((with_reducible refine gd_ 2 ?_); refine bx_ 2 #[.int .u64 0, .int .u64 0, .slice none 0 0, .string (⟨#[]⟩ : ByteArray)] 48 ?_; intro gb210 hg w43 hbox hb; have BK210 := a_ (hbox); have GE210 := a_ (bs_1 hg HB GE209); replace HB := hB_ (bl_1 HB GE209) hb; have NB209_210 := nB_ hg BK209; have NB210_209 := nC_ hg BK209; replace BK209 := bB_ BK209 hb; clear hb hbox hg; have hnb44 := NB209_210.out; have hnc44 := NB210_209.out; obtain ⟨hcz45_0, hcz45_1, hcz45_2, hfz45_0, hfz45_1, hfz45_2⟩ := c3_ BK209) | ((with_reducible refine gk_ 24 ?_); refine gl_ (some 12) Try.func24 #[.agg #[.slice A0_0 l0_0.length c0_0, .bool a0_1, .int .i64 a0_2], .string (⟨#[115, 110, 97, 112]⟩ : ByteArray)] ?_; (with_reducible refine (disk_Read.calls k _ _ l0_0 a0_1 a0_2 (⟨#[115, 110, 97, 112]⟩ : ByteArray) t211 t212 _ ?side1 ?side2 A2.out).mono ?_); (case side1 => exact cl_ (Kd.C_below HR0_0.out HB.out)); (case side2 => exact HC0_0.out); rintro e w46 ⟨rfl, hb⟩; refine ⟨_, rfl, ?_⟩; replace BK209 := bB_ BK209 hb; replace BK210 := bB_ BK210 hb; replace HB := hB_ (bl_2 HB GE209 GE210) hb; (try clear hb)) | ((with_reducible refine gk_ 38 ?_); refine gl_ (some 26) Try.func38 #[.string t211] ?_; (with_reducible refine (pack_TakeFrame.calls k t211 t213 t214 t215 _ A11.out).mono ?_); rintro e w47 ⟨rfl, hb⟩; refine ⟨_, rfl, ?_⟩; replace BK209 := bB_ BK209 hb; replace BK210 := bB_ BK210 hb; replace HB := hB_ (bl_2 HB GE209 GE210) hb; (try clear hb)) | ((with_reducible refine gk_ 27 ?_); refine gl_ (some 32) Try.func27 #[.string t213] ?_; (with_reducible refine (snap_Decode.calls k t213 t216 t217 t218 t221 t222 _ A12.out).mono ?_); rintro e w48 ⟨v219, rfl, ho0, hb⟩; refine ⟨_, rfl, ?_⟩; have HO220 := a_ (Kd.R_lower ho0 (below_size (bl_2 HB GE209 GE210))); replace BK209 := bB_ BK209 hb; replace BK210 := bB_ BK210 hb; replace HB := hB_ (bl_2 HB GE209 GE210) hb; (try clear hb); (try clear ho0)) | ((with_reducible refine gd_ 8 ?_); refine bx_ 8 #[.int .u64 0, .int .u64 0, .slice none 0 0, .string (⟨#[]⟩ : ByteArray)] 48 ?_; intro gb223 hg w49 hbox hb; replace HO220 := a_ (Kd.R_below (by refine rq_ ?_; exact HO220.out) hb); have BK223 := a_ (hbox); have GE223 := a_ (bs_2 hg HB GE209 GE210); replace HB := hB_ (bl_2 HB GE209 GE210) hb; have NB209_223 := nB_ hg BK209; have NB223_209 := nC_ hg BK209; replace BK209 := bB_ BK209 hb; have NB210_223 := nB_ hg BK210; have NB223_210 := nC_ hg BK210; replace BK210 := bB_ BK210 hb; clear hb hbox hg; have hnb50 := NB223_209.out; have hnc50 := NB209_223.out; have hnb51 := NB223_210.out; have hnc51 := NB210_223.out; obtain ⟨hcz52_0, hcz52_1, hcz52_2, hcz52_3, hfz52_0, hfz52_1, hfz52_2, hfz52_3⟩ := c4_ BK223; obtain ⟨Ao53, co53, eo53⟩ := Kd.R_slice HO220.out; subst eo53; obtain ⟨hcz54_0, hcz54_1, hcz54_2, hcz54_3, hfz54_0, hfz54_1, hfz54_2, hfz54_3⟩ := c4_ BK210))
  refine bodyPost_ret (results_ct rfl _ _ gb210 48 #[.int .u64 0, .int .u64 0, .slice none 0 0, .string (⟨#[]⟩ : ByteArray)] (0, 0) _ rfl (bp_1 BK210 NB210_223) Try.underlying48 rfl (by kernel_rfl)) rfl ?_
  exact ⟨_, fz_, by first | exact Kd.R_nil _ _ _ _ _ | exact Kd.N_nil _ _ _ _ _ | exact Kd.V_nil _ _ _ _ _ | exact Kd.Q_nil _ _ _ _ _ | exact Kd.S_nil _ _ _ _ _, bl_3 HB GE209 GE210 GE223⟩
 rw [if_pos c14] at H
 have c14b0 : (t222 == 0) = true := beq_iff_eq.mpr c14
 have c14b1 : (t222 != 0) = false := bne_eq_false_iff_eq.mpr c14
 clear c14
 by_cases c15 : t214.toList = ([] : List UInt8)
 rotate_left
 ·rw [if_neg c15] at H
  have c15b0 : (t214.toList == ([] : List UInt8)) = false := beq_eq_false_iff_ne.mpr c15
  have c15b1 : (t214.toList != ([] : List UInt8)) = true := bne_iff_ne.mpr c15
  simp only [Option.some.injEq, Prod.mk.injEq] at H
  obtain ⟨rfl, rfl, rfl, rfl, rfl⟩ := H
  go_enter Try.func33, Try.ntmps33
  go_wp2_with (first | ((with_reducible refine gd_ 1 ?_); refine bx_ 1 #[.slice A0_0 l0_0.length c0_0, .bool a0_1, .int .i64 a0_2] 24 ?_; intro gb209 hg w29 hbox hb; have BK209 := a_ (hbox); have GE209 := a_ (bs_0 hg HB); replace HB := hB_ (bl_ HB) hb; clear hb hbox hg) | ((with_reducible refine gd_ 2 ?_); refine bx_ 2 #[.int .u64 0, .int .u64 0, .slice none 0 0, .string (⟨#[]⟩ : ByteArray)] 48 ?_; intro gb210 hg w30 hbox hb; have BK210 := a_ (hbox); have GE210 := a_ (bs_1 hg HB GE209); replace HB := hB_ (bl_1 HB GE209) hb; have NB209_210 := nB_ hg BK209; have NB210_209 := nC_ hg BK209; replace BK209 := bB_ BK209 hb; clear hb hbox hg; have hnb31 := NB209_210.out; have hnc31 := NB210_209.out; obtain ⟨hcz32_0, hcz32_1, hcz32_2, hfz32_0, hfz32_1, hfz32_2⟩ := c3_ BK209) | ((with_reducible refine gk_ 24 ?_); refine gl_ (some 12) Try.func24 #[.agg #[.slice A0_0 l0_0.length c0_0, .bool a0_1, .int .i64 a0_2], .string (⟨#[115, 110, 97, 112]⟩ : ByteArray)] ?_; (with_reducible refine (disk_Read.calls k _ _ l0_0 a0_1 a0_2 (⟨#[115, 110, 97, 112]⟩ : ByteArray) t211 t212 _ ?side1 ?side2 A2.out).mono ?_); (case side1 => exact cl_ (Kd.C_below HR0_0.out HB.out)); (case side2 => exact HC0_0.out); rintro e w33 ⟨rfl, hb⟩; refine ⟨_, rfl, ?_⟩; replace BK209 := bB_ BK209 hb; replace BK210 := bB_ BK210 hb; replace HB := hB_ (bl_2 HB GE209 GE210) hb; (try clear hb)) | ((with_reducible refine gk_ 38 ?_); refine gl_ (some 26) Try.func38 #[.string t211] ?_; (with_reducible refine (pack_TakeFrame.calls k t211 t213 t214 t215 _ A11.out).mono ?_); rintro e w34 ⟨rfl, hb⟩; refine ⟨_, rfl, ?_⟩; replace BK209 := bB_ BK209 hb; replace BK210 := bB_ BK210 hb; replace HB := hB_ (bl_2 HB GE209 GE210) hb; (try clear hb)) | ((with_reducible refine gk_ 27 ?_); refine gl_ (some 32) Try.func27 #[.string t213] ?_; (with_reducible refine (snap_Decode.calls k t213 t216 t217 t218 t221 t222 _ A12.out).mono ?_); rintro e w35 ⟨v219, rfl, ho0, hb⟩; refine ⟨_, rfl, ?_⟩; have HO220 := a_ (Kd.R_lower ho0 (below_size (bl_2 HB GE209 GE210))); replace BK209 := bB_ BK209 hb; replace BK210 := bB_ BK210 hb; replace HB := hB_ (bl_2 HB GE209 GE210) hb; (try clear hb); (try clear ho0)) | ((with_reducible refine gd_ 8 ?_); refine bx_ 8 #[.int .u64 0, .int .u64 0, .slice none 0 0, .string (⟨#[]⟩ : ByteArray)] 48 ?_; intro gb223 hg w36 hbox hb; replace HO220 := a_ (Kd.R_below (by refine rq_ ?_; exact HO220.out) hb); have BK223 := a_ (hbox); have GE223 := a_ (bs_2 hg HB GE209 GE210); replace HB := hB_ (bl_2 HB GE209 GE210) hb; have NB209_223 := nB_ hg BK209; have NB223_209 := nC_ hg BK209; replace BK209 := bB_ BK209 hb; have NB210_223 := nB_ hg BK210; have NB223_210 := nC_ hg BK210; replace BK210 := bB_ BK210 hb; clear hb hbox hg; have hnb37 := NB223_209.out; have hnc37 := NB209_223.out; have hnb38 := NB223_210.out; have hnc38 := NB210_223.out; obtain ⟨hcz39_0, hcz39_1, hcz39_2, hcz39_3, hfz39_0, hfz39_1, hfz39_2, hfz39_3⟩ := c4_ BK223; obtain ⟨Ao40, co40, eo40⟩ := Kd.R_slice HO220.out; subst eo40; obtain ⟨hcz41_0, hcz41_1, hcz41_2, hcz41_3, hfz41_0, hfz41_1, hfz41_2, hfz41_3⟩ := c4_ BK210))
  refine bodyPost_ret (results_ct rfl _ _ gb210 48 #[.int .u64 0, .int .u64 0, .slice none 0 0, .string (⟨#[]⟩ : ByteArray)] (0, 0) _ rfl (bp_1 BK210 NB210_223) Try.underlying48 rfl (by kernel_rfl)) rfl ?_
  exact ⟨_, fz_, by first | exact Kd.R_nil _ _ _ _ _ | exact Kd.N_nil _ _ _ _ _ | exact Kd.V_nil _ _ _ _ _ | exact Kd.Q_nil _ _ _ _ _ | exact Kd.S_nil _ _ _ _ _, bl_3 HB GE209 GE210 GE223⟩
 rw [if_pos c15] at H
 have c15b0 : (t214.toList == ([] : List UInt8)) = true := beq_iff_eq.mpr c15
 have c15b1 : (t214.toList != ([] : List UInt8)) = false := bne_eq_false_iff_eq.mpr c15
 clear c15
 simp only [Option.some.injEq, Prod.mk.injEq] at H
 obtain ⟨rfl, rfl, rfl, rfl, rfl⟩ := H
 go_enter Try.func33, Try.ntmps33
 go_wp2_with (first | ((with_reducible refine gd_ 1 ?_); refine bx_ 1 #[.slice A0_0 l0_0.length c0_0, .bool a0_1, .int .i64 a0_2] 24 ?_; intro gb209 hg w16 hbox hb; have BK209 := a_ (hbox); have GE209 := a_ (bs_0 hg HB); replace HB := hB_ (bl_ HB) hb; clear hb hbox hg) | ((with_reducible refine gd_ 2 ?_); refine bx_ 2 #[.int .u64 0, .int .u64 0, .slice none 0 0, .string (⟨#[]⟩ : ByteArray)] 48 ?_; intro gb210 hg w17 hbox hb; have BK210 := a_ (hbox); have GE210 := a_ (bs_1 hg HB GE209); replace HB := hB_ (bl_1 HB GE209) hb; have NB209_210 := nB_ hg BK209; have NB210_209 := nC_ hg BK209; replace BK209 := bB_ BK209 hb; clear hb hbox hg; have hnb18 := NB209_210.out; have hnc18 := NB210_209.out; obtain ⟨hcz19_0, hcz19_1, hcz19_2, hfz19_0, hfz19_1, hfz19_2⟩ := c3_ BK209) | ((with_reducible refine gk_ 24 ?_); refine gl_ (some 12) Try.func24 #[.agg #[.slice A0_0 l0_0.length c0_0, .bool a0_1, .int .i64 a0_2], .string (⟨#[115, 110, 97, 112]⟩ : ByteArray)] ?_; (with_reducible refine (disk_Read.calls k _ _ l0_0 a0_1 a0_2 (⟨#[115, 110, 97, 112]⟩ : ByteArray) t211 t212 _ ?side1 ?side2 A2.out).mono ?_); (case side1 => exact cl_ (Kd.C_below HR0_0.out HB.out)); (case side2 => exact HC0_0.out); rintro e w20 ⟨rfl, hb⟩; refine ⟨_, rfl, ?_⟩; replace BK209 := bB_ BK209 hb; replace BK210 := bB_ BK210 hb; replace HB := hB_ (bl_2 HB GE209 GE210) hb; (try clear hb)) | ((with_reducible refine gk_ 38 ?_); refine gl_ (some 26) Try.func38 #[.string t211] ?_; (with_reducible refine (pack_TakeFrame.calls k t211 t213 t214 t215 _ A11.out).mono ?_); rintro e w21 ⟨rfl, hb⟩; refine ⟨_, rfl, ?_⟩; replace BK209 := bB_ BK209 hb; replace BK210 := bB_ BK210 hb; replace HB := hB_ (bl_2 HB GE209 GE210) hb; (try clear hb)) | ((with_reducible refine gk_ 27 ?_); refine gl_ (some 32) Try.func27 #[.string t213] ?_; (with_reducible refine (snap_Decode.calls k t213 t216 t217 t218 t221 t222 _ A12.out).mono ?_); rintro e w22 ⟨v219, rfl, ho0, hb⟩; refine ⟨_, rfl, ?_⟩; have HO220 := a_ (Kd.R_lower ho0 (below_size (bl_2 HB GE209 GE210))); replace BK209 := bB_ BK209 hb; replace BK210 := bB_ BK210 hb; replace HB := hB_ (bl_2 HB GE209 GE210) hb; (try clear hb); (try clear ho0)) | ((with_reducible refine gd_ 8 ?_); refine bx_ 8 #[.int .u64 0, .int .u64 0, .slice none 0 0, .string (⟨#[]⟩ : ByteArray)] 48 ?_; intro gb223 hg w23 hbox hb; replace HO220 := a_ (Kd.R_below (by refine rq_ ?_; exact HO220.out) hb); have BK223 := a_ (hbox); have GE223 := a_ (bs_2 hg HB GE209 GE210); replace HB := hB_ (bl_2 HB GE209 GE210) hb; have NB209_223 := nB_ hg BK209; have NB223_209 := nC_ hg BK209; replace BK209 := bB_ BK209 hb; have NB210_223 := nB_ hg BK210; have NB223_210 := nC_ hg BK210; replace BK210 := bB_ BK210 hb; clear hb hbox hg; have hnb24 := NB223_209.out; have hnc24 := NB209_223.out; have hnb25 := NB223_210.out; have hnc25 := NB210_223.out; obtain ⟨hcz26_0, hcz26_1, hcz26_2, hcz26_3, hfz26_0, hfz26_1, hfz26_2, hfz26_3⟩ := c4_ BK223; obtain ⟨Ao27, co27, eo27⟩ := Kd.R_slice HO220.out; subst eo27; obtain ⟨hcz28_0, hcz28_1, hcz28_2, hcz28_3, hfz28_0, hfz28_1, hfz28_2, hfz28_3⟩ := c4_ BK210))
 refine bodyPost_ret (results_ct rfl _ _ gb210 48 #[.int .u64 t216, .int .u64 t217, .slice Ao27 t218.length co27, .string t221] (0, 0) _ rfl (bp_1 BK210 NB210_223) Try.underlying48 rfl (by kernel_rfl)) rfl ?_
 exact ⟨_, fz_, by refine rq_ ?_; exact Kd.R_mono (Kd.R_far (p := ⟨gb210, 3, none⟩) (Kd.R_far (p := ⟨gb210, 2, none⟩) (Kd.R_far (p := ⟨gb210, 1, none⟩) (Kd.R_far (p := ⟨gb210, 0, none⟩) (Kd.R_far (p := ⟨gb223, 3, none⟩) (Kd.R_far (p := ⟨gb223, 2, none⟩) (Kd.R_far (p := ⟨gb223, 1, none⟩) (Kd.R_far (p := ⟨gb223, 0, none⟩) (Kd.R_types (Kd.R_types HO220.out BK223.out (by decide)) BK210.out (by decide)) (fun _ hk => hk.1.2) (.int .u64 t216)) (fun _ hk => hk.1.2) (.int .u64 t217)) (fun _ hk => hk.1.2) (.slice Ao27 t218.length co27)) (fun _ hk => hk.1.2) (.string t221)) (fun _ hk => hk.2) (.int .u64 t216)) (fun _ hk => hk.2) (.int .u64 t217)) (fun _ hk => hk.2) (.slice Ao27 t218.length co27)) (fun _ hk => hk.2) (.string t221)) (fun _ hk => trivial), bl_3 HB GE209 GE210 GE223⟩
/-! ### api_File_48: function 48 -/
def api_File_48.f (l0 : List (S71)) : Option ((List (S71))) := (some (([] : List (S71)) : List (S71))).bind fun y224 => (if y224.length + l0.length < 3518437208883 then (some (y224 ++ l0)) else (none))
theorem api_File_48.calls_ (A0 : Option Addr) (hA_ : A0.isNone = false) (c0 : Nat) (l0 : List (S71)) (r : List (S71)) (w : World) (hr0 : Kd.C k71 w A0 l0.length l0) (hc0 : l0.length ≤ c0) (h : api_File_48.f l0 = some r) :
  Calls Try.prog 48 #[.slice A0 l0.length c0] w fun e w' => ∃ v0_ : Value, e = .returned (v0_) ∧ Kd.R k71 71 w' w.heap.size (fun _ => True) v0_ r ∧ Below w.heap.size w w' := by
 have HR0 := a_ hr0
 have HC0 := a_ hc0
 clear hr0 hc0
 have q_ : ∀ (w : World) (n c n' c' : Nat), (binOp .eql 22 (.slice A0 n c) (.slice none n' c')).run Try.prog w = .ok (.bool false) w := fun w n c n' c' => by rw [Lib.run_eql_slice_nil w _ _ A0 n c n' c' Try.underlying22, hA_]
 have HB := a_ (Below.refl w.heap.size w)
 have H : ((some (([] : List (S71)) : List (S71))).bind fun y224 => (if y224.length + l0.length < 3518437208883 then (some (y224 ++ l0)) else (none))) = some r := h
 clear h
 obtain ⟨y224, hy224⟩ : ∃ y_ : List (S71), y_ = (([] : List (S71))) := ⟨_, rfl⟩
 replace H : (if y224.length + l0.length < 3518437208883 then (some (y224 ++ l0)) else (none)) = some r := by first | (rw [hy224]; with_reducible exact H) | (have H2_ := (Option.bind_some _ _).symm.trans H; rw [hy224]; with_reducible exact H2_) | (have H2_ := (Option.bind_some _ _).symm.trans H; with_reducible exact H2_) | with_reducible exact H | (rw [hy224]; exact H) | exact H
 have Ny224 := a_ hy224
 clear hy224
 by_cases c2 : y224.length + l0.length < 3518437208883
 rotate_left
 ·rw [if_neg c2] at H
  exact absurd H (by simp)
 rw [if_pos c2] at H
 have LMc2 := a_ c2
 clear c2
 obtain ⟨y227, hy227⟩ : ∃ y_ : List (S71), y_ = (y224 ++ l0) := ⟨_, rfl⟩
 replace H : (some y227) = some r := by first | (rw [hy227]; with_reducible exact H) | (have H2_ := (Option.bind_some _ _).symm.trans H; rw [hy227]; with_reducible exact H2_) | (have H2_ := (Option.bind_some _ _).symm.trans H; with_reducible exact H2_) | with_reducible exact H | (rw [hy227]; exact H) | exact H
 have Ny227 := a_ hy227
 clear hy227
 obtain rfl := Option.some.inj H
 go_enter Try.func48, Try.ntmps48
 go_wp2_with (first | ((with_reducible refine gd_ 5 ?_); refine Kd.R_lit k71 _ 71 ?hg (N := 5) ?hd (xs := ([] : List (S71))) (inner := []) (ok := fun _ => True) (okp := fun _ => True) ?hr ?hp (fun _ hk => hk) trivial (Below.refl _ _) (Nat.le_refl _) (by simp) ?_; (case hd => rfl); (case hg => rfl); (case hr => first | (go_simp; done) | (go_simp; rfl)); (case hp => exact (Reps.none _ _)); intro v225 w3 ho4 hb hg_ hnew_; clear hg_ hnew_; (first | rw [← Ny224.out] at ho4 | (simp only [Int.reduceToNat] at ho4; rw [← Ny224.out] at ho4)); have HO226 := a_ (Kd.R_lower ho4 (below_size (bl_ HB))); replace HB := hB_ (bl_ HB) hb; clear hb ho4) | ((with_reducible refine gate_builtin (b := .append) (xs := #[.tmp 5, .tmp 6]) rfl ?_); at_builtin; refine Kd.R_append_rows k71 (w0 := w) w.heap.size rfl (.tmp 5) (.tmp 6) 22 71 (.agg #[(.string ⟨#[]⟩), (.string ⟨#[]⟩), (.int .i64 0)]) 40 rfl Try.underlying22 info71 rfl (by decide) (by omega) v225 y224 l0 _ _ _ (fun _ => True) (fun _ => False) rfl rfl ?aO ?aR (fun _ _ h => h) (fun _ h => h.elim) ?aF ?aB ?aS ?aL ?_; (case aR => exact cl_ (Kd.C_below HR0.out HB.out)); (case aB => exact (bl_ HB)); (case aF => exact (fun _ _ => trivial)); (case aO => exact (by refine rq_ ?_; exact HO226.out)); (case aS => exact (below_size (bl_ HB))); (case aL => have := LMc2.out; omega); intro v228 w5 ho hb hg hat; rw [← Ny227.out] at ho; replace HB := a_ (hb); have HO229 := a_ (ho); clear HO226; clear ho hb hg hat))
 go_ret
 exact ⟨_, fz_, by refine rq_ ?_; exact HO229.out, bl_ HB⟩
set_option maxRecDepth 100000 in
theorem api_File_48.calls (A0 : Option Addr) (c0 : Nat) (l0 : List (S71)) (r : List (S71)) (w : World) (hr0 : Kd.C k71 w A0 l0.length l0) (hc0 : l0.length ≤ c0) (h : api_File_48.f l0 = some r) :
  Calls Try.prog 48 #[.slice A0 l0.length c0] w fun e w' => ∃ v0_ : Value, e = .returned (v0_) ∧ Kd.R k71 71 w' w.heap.size (fun _ => True) v0_ r ∧ Below w.heap.size w w' := by
  cases A0 with
  | some a => exact api_File_48.calls_ _ rfl _ _ _ _ hr0 hc0 h
  | none =>
    have hl : l0 = [] := by
      cases l0 with
      | nil => rfl
      | cons x l0 => obtain ⟨_, _, hx⟩ := hr0; obtain ⟨a, ha, _⟩ := hx (by simp); cases ha
    subst hl
    have hr : r = [] := by simpa [api_File_48.f, eq_comm] using h
    subst hr
    have q_ : ∀ (w : World) (n c n' c' : Nat), (binOp .eql 22 (.slice none n c) (.slice none n' c')).run Try.prog w = .ok (.bool true) w := fun w n c n' c' => by rw [Lib.run_eql_slice_nil w _ _ none n c n' c' Try.underlying22]; rfl
    go_enter Try.func48, Try.ntmps48
    go_wp2
    go_ret
    exact ⟨_, rfl, Kd.R_nil _ _ _ _ _, Below.refl _ _⟩

/-! ### disk_named: function 111 -/
def disk_named.f (a0 : ByteArray) : Option (Bool) := if a0.toList = ([] : List UInt8) then (some false) else (some (decide ((a0.size : Int) ≤ 32)))
theorem disk_named.calls (a0 : ByteArray) (r : Bool) (w : World) (h : disk_named.f a0 = some r) :
  Calls Try.prog 111 #[.string a0] w fun e w' => e = .returned (.bool r) ∧ Drawn0 w w' := by
 have H : (if a0.toList = ([] : List UInt8) then (some false) else (some (decide ((a0.size : Int) ≤ 32)))) = some r := h
 clear h
 by_cases c2 : a0.toList = ([] : List UInt8)
 rotate_left
 ·rw [if_neg c2] at H
  have c2b0 : (a0.toList == ([] : List UInt8)) = false := beq_eq_false_iff_ne.mpr c2
  have c2b1 : (a0.toList != ([] : List UInt8)) = true := bne_iff_ne.mpr c2
  obtain rfl := Option.some.inj H
  go_enter Try.func111, Try.ntmps111
  go_wp2
  go_ret
  exact ⟨fz_, dr_⟩


 rw [if_pos c2] at H
 have c2b0 : (a0.toList == ([] : List UInt8)) = true := beq_iff_eq.mpr c2
 have c2b1 : (a0.toList != ([] : List UInt8)) = false := bne_eq_false_iff_eq.mpr c2
 clear c2
 obtain rfl := Option.some.inj H
 go_enter Try.func111, Try.ntmps111
 go_wp2
 go_ret
 exact ⟨fz_, dr_⟩end Go.Proofs.Ytpigjmjbfpipnaa.PE
