-- Written for this claim by a program of this session. Lean checks it.
import Derived.Test.YtpigjmjbfpipnaaPCx0
import Derived.Test.YtpigjmjbfpipnaaPCx3
import Derived.Test.YtpigjmjbfpipnaaPCx6
import Derived.Test.YtpigjmjbfpipnaaPCx7
namespace Go.Proofs.Ytpigjmjbfpipnaa.PC
open Go.RowKit Go.Proofs.YtpigjmjbfpipnaaW.PrintWords Go.Proofs.YtpigjmjbfpipnaaW.PrintLast Go.Proofs.YtpigjmjbfpipnaaW.PrintMore Go.Proofs.Ytpigjmjbfpipnaa.Sh Go.Proofs.Ytpigjmjbfpipnaa.Op
attribute [local go_sem] max2_int min2_int max_two min_two max_three min_three max_four min_four   -- for this text's walks alone
set_option linter.unusedVariables false
set_option linter.unusedSimpArgs false

/-! ### pack_fixed: function 91 -/
def pack_fixed.l0 : Nat → Int → Int → List Int → Int → Int → Option (ByteArray)
 | 0, _, _, _, _, _ => none
 | k + 1, x0, x1, x5, x10, x11 => if x11 < x10 then (if 0 ≤ (wrap64 (8 * x11)) then (if 0 ≤ (wrap64 ((wrap64 (x1 - 1)) - x11)) then (if (wrap64 ((wrap64 (x1 - 1)) - x11)) < (x5.length : Int) then (pack_fixed.l0 k x0 x1 (x5.set ((wrap64 ((wrap64 (x1 - 1)) - x11)) : Int).toNat ((shr .u64 x0 (wrap64 (8 * x11))) % 256)) x10 (wrap64 (x11 + 1))) else (none)) else (none)) else (none)) else (some (strOfNums x5))
def pack_fixed.f (k : Nat) (a0 : Int) (a1 : Int) : Option (ByteArray) := if 0 ≤ a1 then (if (a1 : Int).toNat ≤ 281474976710656 then ((some (List.replicate (a1 : Int).toNat 0 : List Int)).bind fun y267 => (pack_fixed.l0 k a0 a1 y267 (y267.length : Int) 0)) else (none)) else (none)
theorem pack_fixed.mono_l : ∀ k, (∀ y0 y1 y2 y3 y4, LeO (pack_fixed.l0 k y0 y1 y2 y3 y4) (pack_fixed.l0 (k + 1) y0 y1 y2 y3 y4))
 | 0 => fun _ _ _ _ _ r h => by simp [pack_fixed.l0] at h
 | k + 1 => by
  have ih0 := pack_fixed.mono_l k
  ·intro y0 y1 y2 y3 y4
   unfold pack_fixed.l0
   repeat' first | (with_reducible first | exact ih0 _ _ _ _ _ | exact LeO.refl _ | exact LeO.none _ | refine LeO.ite ?_ ?_ | refine LeO.bind ?_ (fun _ => ?_)) | exact ih0 _ _ _ _ _ | exact LeO.none _ | refine LeO.ite ?_ ?_ | refine LeO.bind ?_ (fun _ => ?_)
theorem pack_fixed.mono : ∀ a0 a1 k, LeO (pack_fixed.f k a0 a1) (pack_fixed.f (k + 1) a0 a1) := by
 intro a0 a1 k
 have ih0 := pack_fixed.mono_l k
 unfold pack_fixed.f
 repeat' first | (with_reducible first | exact ih0 _ _ _ _ _ | exact LeO.refl _ | exact LeO.none _ | refine LeO.ite ?_ ?_ | refine LeO.bind ?_ (fun _ => ?_)) | exact ih0 _ _ _ _ _ | exact LeO.none _ | refine LeO.ite ?_ ?_ | refine LeO.bind ?_ (fun _ => ?_)
set_option maxHeartbeats 80000000 in
set_option maxRecDepth 100000 in
theorem pack_fixed.calls (k : Nat) (a0 : Int) (a1 : Int) (r : ByteArray) (w : World) (h : pack_fixed.f k a0 a1 = some r) :
  Calls Try.prog 91 #[.int .u64 a0, .int .i64 a1] w fun e w' => e = .returned (.string r) ∧ Below w.heap.size w w' := by
 have HB := Aside0.mk (Below.refl w.heap.size w)
 have H : (if 0 ≤ a1 then (if (a1 : Int).toNat ≤ 281474976710656 then ((some (List.replicate (a1 : Int).toNat 0 : List Int)).bind fun y267 => (pack_fixed.l0 k a0 a1 y267 (y267.length : Int) 0)) else (none)) else (none)) = some r := h
 clear h
 by_cases c3 : 0 ≤ a1
 rotate_left
 ·rw [if_neg c3] at H
  exact absurd H (by simp)


 rw [if_pos c3] at H
 have c3b0 := eq_true c3
 have c3b1 : decide (0 ≤ a1) = true := decide_eq_true c3
 clear c3
 by_cases c4 : (a1 : Int).toNat ≤ 281474976710656
 rotate_left
 ·rw [if_neg c4] at H
  exact absurd H (by simp)
 rw [if_pos c4] at H
 have c4b0 := eq_true c4
 have c4b1 : decide ((a1 : Int).toNat ≤ 281474976710656) = true := decide_eq_true c4
 clear c4
 obtain ⟨y267, hy267⟩ : ∃ y_ : List Int, y_ = (List.replicate (a1 : Int).toNat 0) := ⟨_, rfl⟩
 replace H : (pack_fixed.l0 k a0 a1 y267 (y267.length : Int) 0) = some r := by first | (rw [hy267]; with_reducible exact H) | (have H2_ := (Option.bind_some _ _).symm.trans H; rw [hy267]; with_reducible exact H2_) | (have H2_ := (Option.bind_some _ _).symm.trans H; with_reducible exact H2_) | with_reducible exact H | (rw [hy267]; exact H) | exact H
 have Ny267 := Aside0.mk hy267
 clear hy267
 have H' := Aside0.mk H
 clear H
 go_enter Try.func91, Try.ntmps91
 go_wp2_with (first | ((with_reducible refine gate_dst (N := 8) rfl ?_); refine Kd.R_make (Kd.int .u8) _ 5 rfl (N := 8) rfl 111 _ _ rfl a1 rfl rfl Try.underlying111 (.int .u8 0) 1 info5 rfl (by decide) (by omega) 0 (ok := fun _ => True) (okp := fun _ => True) rfl (fun _ hk => hk) trivial (of_decide_eq_true (by first | (with_reducible assumption) | assumption)) (Nat.le_trans (Nat.mul_le_mul_right _ (of_decide_eq_true (by first | (with_reducible assumption) | assumption) : a1.toNat ≤ 281474976710656)) (by omega)) (Below.refl _ _) (Nat.le_refl _) ?_; intro v268 w5 ho6 hb hg_ hnew_; clear hg_ hnew_; (first | rw [← Ny267.out] at ho6 | (simp only [Int.reduceToNat] at ho6; rw [← Ny267.out] at ho6)); have HO269 := Aside0.mk (Kd.R_lower ho6 (below_size (bl_ HB))); replace HB := Aside0.mk (below_step (bl_ HB) hb); clear hb ho6; obtain ⟨Ao7, co7, eo7⟩ := Kd.R_slice HO269.out; subst eo7))
 go_loopg [11] k (fun kq v11 w' => ∃ (x5_1 : List Int) (x11_1 : Int), v11 = .int .i64 x11_1 ∧ Aside0 (pack_fixed.l0 kq a0 a1 x5_1 (y267.length : Int) x11_1 = some r) ∧ Aside0 (kq ≤ k) ∧ Aside0 (Kd.R (Kd.int .u8) 5 w' w.heap.size (fun _ => True) (.slice Ao7 y267.length co7) x5_1) ∧ Aside0 (Below w.heap.size w w'))
 case atStart => exact ⟨(y267), (0), (by first | rfl | (simp; done) | (simp [*]; done)), H', ⟨Nat.le_refl _⟩, ⟨by (with_reducible repeat (first | apply Kd.R_alloc | apply Kd.R_drewN | apply Kd.R_drew)); exact HO269.out⟩, ⟨bl_ HB⟩⟩
 case round =>
  clear H'
  try clear p2
  try clear c3
  try clear c3b0
  try clear c3b1
  try clear c4
  try clear c4b0
  try clear c4b1
  obtain ⟨x5_1, x11_1, rfl, HA, HK1, HO_5, HB⟩ := hrel
  have hl5_1 := (Kd.R_reads' HO_5.out).1
  rw [hl5_1] at HO_5
  (try simp only [hl5_1])
  cases gk with
  | zero => exact absurd HA.out (by simp [pack_fixed.l0])
  | succ k1 =>
   have H := HA.out
   clear HA
   simp only [pack_fixed.l0] at H
   by_cases c8 : x11_1 < (y267.length : Int)
   rotate_left
   ·rw [if_neg c8] at H
    have c8b0 : decide (x11_1 < (y267.length : Int)) = false := decide_eq_false c8
    (try rw [hl5_1] at c8b0)
    clear c8
    obtain rfl := Option.some.inj H
    have hcv18 := own_string (P := Try.prog) Try.underlying111 Try.underlying5 Try.underlying9 (Kd.own_of_R HO_5.out)
    go_wp2
    go_ret
    exact ⟨by first | rfl | (simp; done) | (simp [*]; done), bl_ HB⟩
   rw [if_pos c8] at H
   have c8b0 : decide (x11_1 < (y267.length : Int)) = true := decide_eq_true c8
   (try rw [hl5_1] at c8b0)
   clear c8
   obtain ⟨ji9, hji9⟩ : ∃ j_ : Int, (wrap64 (8 * x11_1)) = j_ := ⟨_, rfl⟩
   replace H : (if 0 ≤ (ji9) then (if 0 ≤ (wrap64 ((wrap64 (a1 - 1)) - x11_1)) then (if (wrap64 ((wrap64 (a1 - 1)) - x11_1)) < (x5_1.length : Int) then (pack_fixed.l0 k1 a0 a1 (x5_1.set ((wrap64 ((wrap64 (a1 - 1)) - x11_1)) : Int).toNat ((shr .u64 a0 (ji9)) % 256)) (y267.length : Int) (wrap64 (x11_1 + 1))) else (none)) else (none)) else (none)) = some r := by first | (rw [hji9] at H; exact H) | (simp only [hji9] at H ⊢; exact H)
   have hji9w : (IntKind.i64.wrap (8 * x11_1)) = ji9 := (i64_w _).trans hji9
   by_cases c10 : 0 ≤ (ji9)
   rotate_left
   ·rw [if_neg c10] at H
    exact absurd H (by simp)
   rw [if_pos c10] at H
   have c10b0 := eq_true c10
   have c10b1 : decide (0 ≤ (ji9)) = true := decide_eq_true c10
   clear c10
   obtain ⟨ji11, hji11⟩ : ∃ j_ : Int, (shr .u64 a0 (ji9)) = j_ := ⟨_, rfl⟩
   replace H : (if 0 ≤ (wrap64 ((wrap64 (a1 - 1)) - x11_1)) then (if (wrap64 ((wrap64 (a1 - 1)) - x11_1)) < (x5_1.length : Int) then (pack_fixed.l0 k1 a0 a1 (x5_1.set ((wrap64 ((wrap64 (a1 - 1)) - x11_1)) : Int).toNat ((ji11) % 256)) (y267.length : Int) (wrap64 (x11_1 + 1))) else (none)) else (none)) = some r := by first | (rw [hji11] at H; exact H) | (simp only [hji11] at H ⊢; exact H)
   have hji11_ : (a0 / 2 ^ min (ji9).toNat 64) = ji11 := hji11
   have hji11z : (ji9) ≤ 64 → (a0 / 2 ^ (ji9).toNat) = ji11 := shr_small hji11
   obtain ⟨ji12, hji12⟩ : ∃ j_ : Int, (wrap64 ((wrap64 (a1 - 1)) - x11_1)) = j_ := ⟨_, rfl⟩
   replace H : (if 0 ≤ (ji12) then (if (ji12) < (x5_1.length : Int) then (pack_fixed.l0 k1 a0 a1 (x5_1.set ((ji12) : Int).toNat ((ji11) % 256)) (y267.length : Int) (wrap64 (x11_1 + 1))) else (none)) else (none)) = some r := by first | (rw [hji12] at H; exact H) | (simp only [hji12] at H ⊢; exact H)
   have hji12w : (IntKind.i64.wrap ((wrap64 (a1 - 1)) - x11_1)) = ji12 := (i64_w _).trans hji12
   by_cases c13 : 0 ≤ (ji12)
   rotate_left
   ·rw [if_neg c13] at H
    exact absurd H (by simp)
   rw [if_pos c13] at H
   have c13b0 : decide (0 ≤ (ji12)) = true := decide_eq_true c13
   clear c13
   by_cases c14 : (ji12) < (x5_1.length : Int)
   rotate_left
   ·rw [if_neg c14] at H
    exact absurd H (by simp)
   rw [if_pos c14] at H
   have c14b0 : decide ((ji12) < (x5_1.length : Int)) = true := decide_eq_true c14
   (try rw [hl5_1] at c14b0)
   clear c14
   obtain ⟨y270, hy270⟩ : ∃ y_ : List Int, y_ = (x5_1.set ((ji12) : Int).toNat ((ji11) % 256)) := ⟨_, rfl⟩
   replace H : (pack_fixed.l0 k1 a0 a1 y270 (y267.length : Int) (wrap64 (x11_1 + 1))) = some r := by first | (rw [hy270]; with_reducible exact H) | (have H2_ := (Option.bind_some _ _).symm.trans H; rw [hy270]; with_reducible exact H2_) | (have H2_ := (Option.bind_some _ _).symm.trans H; with_reducible exact H2_) | with_reducible exact H | (rw [hy270]; exact H) | exact H
   have Ny270 := Aside0.mk hy270
   clear hy270
   have H' := Aside0.mk H
   clear H
   have p15 : 0 ≤ ((ji12) : Int) := of_decide_eq_true (by first | (with_reducible assumption) | assumption)
   have q15 : ((ji12) : Int) < ((x5_1.length : Int) : Int) := of_decide_eq_true (by first | (with_reducible assumption) | assumption)
   obtain ⟨go15, co15, eo15, gb15, gl15, cl15, HG15⟩ := Kd.R_form HO_5.out (by omega)
   (first | cases eo15 | (injection eo15 with ea_ en_ ec_; (first | subst ea_ | (injection ea_ with ea_; subst ea_)); subst ec_; clear en_))
   have GB15 := Aside0.mk gb15
   have GG15 := Aside0.mk HG15
   clear gb15 gl15 HG15
   obtain ⟨hx15_0, hf15_0⟩ := Kd.R_celln 0 HO_5.out ((ji12) : Int) p15 q15
   replace p15 := eq_true p15
   replace q15 := eq_true q15
   have HP16 := Kd.R_putg HO_5.out ((ji12) : Int) ((ji11) % 256)
   go_wp2_with (first | ((with_reducible refine gate_store (t := 5) (p := 24) rfl ?_); refine store_event (t := 5) (p := 24) (v := ?vo_w17) (w1 := (wr.setCell ⟨go15, ((ji12) : Int).toNat, none⟩ (.int .u8 ((ji11) % 256)))) ?hg ?ho ?hn ?hr ?_; (case ho => rfl); (case hg => rfl); (case hn => rfl); (case hr => first | (go_simp; done) | (go_simp; rfl)); intro w17 hw; have hg : wr.grownBy w17 (some go15) := (by rw [hw]; exact HP16.2); have hp_ : Kd.R (Kd.int .u8) 5 w17 w.heap.size (fun _ => True) (.slice (some ⟨go15, 0, none⟩) x5_1.length co7) y270 := (by rw [hw, Ny270.out]; exact HP16.1); clear HP16; replace HO_5 := Aside0.mk (hp_); replace HB := Aside0.mk ((by rw [hw]; exact below_set (HB.out) GB15.out : Below w.heap.size w w17)); clear hg hw hp_))
   (try simp only [← hl5_1])
   go_roundg k1
   case measure => have := HK1.out; omega
   case rel => exact ⟨(y270), (wrap64 (x11_1 + 1)), (by first | rfl | (simp; done) | (simp [*]; done)), H', ⟨by have := HK1.out; omega⟩, ⟨by (try simp only [hl5_1]); (with_reducible repeat (first | apply Kd.R_alloc | apply Kd.R_drewN | apply Kd.R_drew)); exact HO_5.out⟩, ⟨bl_ HB⟩⟩
/-! ### pack_Sum: function 92 -/
mutual
def pack_Sum.l0 : Nat → ByteArray → Int → Int → Option (Int)
 | 0, _, _, _ => none
 | k + 1, x0, x3, x4 => if x4 = (x0.size : Int) then (some x3) else (if 0 ≤ x4 then (if x4 < (x0.size : Int) then (pack_Sum.l1 k x0 (Go.bits .xor .u16 x3 (IntKind.u16.wrap ((IntKind.u16.wrap (bt x0 x4)) * 256))) x4 0) else (none)) else (none))
def pack_Sum.l1 : Nat → ByteArray → Int → Int → Int → Option (Int)
 | 0, _, _, _, _ => none
 | k + 1, x0, x3, x4, x19 => if x19 < 8 then (pack_Sum.l1 k x0 (Go.bits .xor .u16 (IntKind.u16.wrap (x3 * 2)) (IntKind.u16.wrap (4129 * (x3 / 32768)))) x4 (wrap64 (x19 + 1))) else (pack_Sum.l0 k x0 x3 (wrap64 (x4 + 1)))
end
def pack_Sum.f (k : Nat) (a0 : ByteArray) : Option (Int) := pack_Sum.l0 k a0 65535 0
theorem pack_Sum.mono_l : ∀ k, (∀ y0 y1 y2, LeO (pack_Sum.l0 k y0 y1 y2) (pack_Sum.l0 (k + 1) y0 y1 y2)) ∧ (∀ y0 y1 y2 y3, LeO (pack_Sum.l1 k y0 y1 y2 y3) (pack_Sum.l1 (k + 1) y0 y1 y2 y3))
 | 0 => ⟨fun _ _ _ r h => by simp [pack_Sum.l0] at h, fun _ _ _ _ r h => by simp [pack_Sum.l1] at h⟩
 | k + 1 => by
  obtain ⟨ih0, ih1⟩ := pack_Sum.mono_l k
  refine ⟨?_, ?_⟩
  ·intro y0 y1 y2
   unfold pack_Sum.l0
   repeat' first | (with_reducible first | exact ih0 _ _ _ | exact ih1 _ _ _ _ | exact LeO.refl _ | exact LeO.none _ | refine LeO.ite ?_ ?_ | refine LeO.bind ?_ (fun _ => ?_)) | exact ih0 _ _ _ | exact ih1 _ _ _ _ | exact LeO.none _ | refine LeO.ite ?_ ?_ | refine LeO.bind ?_ (fun _ => ?_)
  ·intro y0 y1 y2 y3
   unfold pack_Sum.l1
   repeat' first | (with_reducible first | exact ih0 _ _ _ | exact ih1 _ _ _ _ | exact LeO.refl _ | exact LeO.none _ | refine LeO.ite ?_ ?_ | refine LeO.bind ?_ (fun _ => ?_)) | exact ih0 _ _ _ | exact ih1 _ _ _ _ | exact LeO.none _ | refine LeO.ite ?_ ?_ | refine LeO.bind ?_ (fun _ => ?_)
theorem pack_Sum.mono : ∀ a0 k, LeO (pack_Sum.f k a0) (pack_Sum.f (k + 1) a0) := by
 intro a0 k
 obtain ⟨ih0, ih1⟩ := pack_Sum.mono_l k
 unfold pack_Sum.f
 repeat' first | (with_reducible first | exact ih0 _ _ _ | exact ih1 _ _ _ _ | exact LeO.refl _ | exact LeO.none _ | refine LeO.ite ?_ ?_ | refine LeO.bind ?_ (fun _ => ?_)) | exact ih0 _ _ _ | exact ih1 _ _ _ _ | exact LeO.none _ | refine LeO.ite ?_ ?_ | refine LeO.bind ?_ (fun _ => ?_)
set_option maxHeartbeats 80000000 in
set_option maxRecDepth 100000 in
theorem pack_Sum.calls (k : Nat) (a0 : ByteArray) (r : Int) (w : World) (h : pack_Sum.f k a0 = some r) :
  Calls Try.prog 92 #[.string a0] w fun e w' => e = .returned (.int .u16 r) ∧ Drawn0 w w' := by
 have H : (pack_Sum.l0 k a0 65535 0) = some r := h
 clear h
 have H' := Aside0.mk H
 clear H
 go_enter Try.func92, Try.ntmps92
 go_wp2
 repeat (go_step3; try (go_wp2))
 go_loopg [3, 4] k (fun kq v3 v4 w' => ∃ (x3_1 : Int) (x4_1 : Int), v3 = .int .u16 x3_1 ∧ v4 = .int .i64 x4_1 ∧ Aside0 (pack_Sum.l0 kq a0 x3_1 x4_1 = some r) ∧ Aside0 (kq ≤ k) ∧ Drawn0 w w')
 case atStart => exact ⟨(65535), (0), (by first | rfl | (simp; done) | (simp [*]; done)), (by first | rfl | (simp; done) | (simp [*]; done)), H', ⟨Nat.le_refl _⟩, dr_⟩
 case round =>
  clear H'
  obtain ⟨x3_1, x4_1, rfl, rfl, HA, HK1, ⟨m1, rfl⟩⟩ := hrel
  cases gk with
  | zero => exact absurd HA.out (by simp [pack_Sum.l0])
  | succ k1 =>
   have H := HA.out
   clear HA
   simp only [pack_Sum.l0] at H
   by_cases c2 : x4_1 = (a0.size : Int)
   ·rw [if_pos c2] at H
    have c2b0 : (x4_1 == (a0.size : Int)) = true := beq_iff_eq.mpr c2
    have c2b1 : (x4_1 != (a0.size : Int)) = false := bne_eq_false_iff_eq.mpr c2
    clear c2
    obtain rfl := Option.some.inj H
    go_wp2
    repeat (go_step3; try (go_wp2))
    try dsimp only [Exit.noGoto]
    go_ret
    exact ⟨by first | rfl | (simp; done) | (simp [*]; done), dr_⟩
   rw [if_neg c2] at H
   have c2b0 : (x4_1 == (a0.size : Int)) = false := beq_eq_false_iff_ne.mpr c2
   have c2b1 : (x4_1 != (a0.size : Int)) = true := bne_iff_ne.mpr c2
   by_cases c3 : 0 ≤ x4_1
   rotate_left
   ·rw [if_neg c3] at H
    exact absurd H (by simp)


   rw [if_pos c3] at H
   have c3b0 : decide (0 ≤ x4_1) = true := decide_eq_true c3
   clear c3
   by_cases c4 : x4_1 < (a0.size : Int)
   rotate_left
   ·rw [if_neg c4] at H
    exact absurd H (by simp)
   rw [if_pos c4] at H
   have c4b0 : decide (x4_1 < (a0.size : Int)) = true := decide_eq_true c4
   clear c4
   have H' := Aside0.mk H
   clear H
   have p5 : 0 ≤ (x4_1 : Int) := of_decide_eq_true (by first | (with_reducible assumption) | assumption)
   have q5 : x4_1 < (a0.size : Int) := of_decide_eq_true (by first | (with_reducible assumption) | assumption)
   have hx5 := bt_at a0 x4_1
   replace p5 := eq_true p5
   replace q5 := eq_true q5
   go_wp2
   repeat (go_step3; try (go_wp2))
   go_loopg [3, 19] k1 (fun kq v3 v19 w' => ∃ (x3_2 : Int) (x19_2 : Int), v3 = .int .u16 x3_2 ∧ v19 = .int .i64 x19_2 ∧ Aside0 (pack_Sum.l1 kq a0 x3_2 x4_1 x19_2 = some r) ∧ Aside0 (kq ≤ k1) ∧ Drawn0 w w')
   case atStart => exact ⟨(Go.bits .xor .u16 x3_1 (IntKind.u16.wrap ((IntKind.u16.wrap (bt a0 x4_1)) * 256))), (0), (by first | rfl | (simp; done) | (simp [*]; done)), (by first | rfl | (simp; done) | (simp [*]; done)), H', ⟨Nat.le_refl _⟩, dr_⟩
   case round =>
    clear H'
    try clear c2
    try clear c2b0
    try clear c2b1
    try clear p2
    try clear c3
    try clear c3b0
    try clear c4
    try clear c4b0
    try clear p5
    try clear q5
    try clear hx5
    try clear p5
    try clear q5
    obtain ⟨x3_2, x19_2, rfl, rfl, HA, HK2, ⟨m2, rfl⟩⟩ := hrel
    cases gk with
    | zero => exact absurd HA.out (by simp [pack_Sum.l1])
    | succ k2 =>
     have H := HA.out
     clear HA
     simp only [pack_Sum.l1] at H
     by_cases c6 : x19_2 < 8
     rotate_left
     ·rw [if_neg c6] at H
      have c6b0 : decide (x19_2 < 8) = false := decide_eq_false c6
      clear c6
      have H' := Aside0.mk H
      clear H
      go_wp2
      repeat (go_step3; try (go_wp2))
      go_roundg k2
      case measure => have := HK1.out; have := HK2.out; omega
      case rel => exact ⟨(x3_2), (wrap64 (x4_1 + 1)), (by first | rfl | (simp; done) | (simp [*]; done)), (by first | rfl | (simp; done) | (simp [*]; done)), H', ⟨by have := HK1.out; have := HK2.out; omega⟩, dr_⟩
     rw [if_pos c6] at H
     have c6b0 : decide (x19_2 < 8) = true := decide_eq_true c6
     clear c6
     have H' := Aside0.mk H
     clear H
     go_wp2
     repeat (go_step3; try (go_wp2))
     go_roundg k2
     case measure => have := HK1.out; have := HK2.out; omega
     case rel => exact ⟨(Go.bits .xor .u16 (IntKind.u16.wrap (x3_2 * 2)) (IntKind.u16.wrap (4129 * (x3_2 / 32768)))), (wrap64 (x19_2 + 1)), (by first | rfl | (simp; done) | (simp [*]; done)), (by first | rfl | (simp; done) | (simp [*]; done)), H', ⟨by have := HK1.out; have := HK2.out; omega⟩, dr_⟩
/-! ### pack_Frame: function 59 -/
def pack_Frame.f (k : Nat) (a0 : ByteArray) : Option (ByteArray × Int) := if (a0.size : Int) > 65536 then (some ((⟨#[]⟩ : ByteArray), 2)) else ((pack_fixed.f k (IntKind.u64.wrap ((a0.size : Int))) 4).bind fun t271 => (if t271.size + a0.size ≤ 9223372036854775807 then ((pack_Sum.f k (t271 ++ a0)).bind fun t272 => ((pack_fixed.f k (IntKind.u64.wrap (t272)) 2).bind fun t273 => (if t271.size + t273.size ≤ 9223372036854775807 then (if (t271 ++ t273).size + a0.size ≤ 9223372036854775807 then (some ((t271 ++ t273) ++ a0, 0)) else (none)) else (none)))) else (none)))
theorem pack_Frame.mono : ∀ a0 k, LeO (pack_Frame.f k a0) (pack_Frame.f (k + 1) a0) := by
 intro a0 k
 unfold pack_Frame.f
 repeat' first | (with_reducible first | exact pack_Sum.mono _ _ | exact pack_fixed.mono _ _ _ | exact LeO.refl _ | exact LeO.none _ | refine LeO.ite ?_ ?_ | refine LeO.bind ?_ (fun _ => ?_)) | exact pack_Sum.mono _ _ | exact pack_fixed.mono _ _ _ | exact LeO.none _ | refine LeO.ite ?_ ?_ | refine LeO.bind ?_ (fun _ => ?_)
set_option maxHeartbeats 80000000 in
set_option maxRecDepth 100000 in
theorem pack_Frame.calls (k : Nat) (a0 : ByteArray) (r1 : ByteArray) (r2 : Int) (w : World) (h : pack_Frame.f k a0 = some (r1, r2)) :
  Calls Try.prog 59 #[.string a0] w fun e w' => e = .returned (.tuple #[.string r1, .int .i64 r2]) ∧ Below w.heap.size w w' := by
 have HB := Aside0.mk (Below.refl w.heap.size w)
 have H : (if (a0.size : Int) > 65536 then (some ((⟨#[]⟩ : ByteArray), 2)) else ((pack_fixed.f k (IntKind.u64.wrap ((a0.size : Int))) 4).bind fun t271 => (if t271.size + a0.size ≤ 9223372036854775807 then ((pack_Sum.f k (t271 ++ a0)).bind fun t272 => ((pack_fixed.f k (IntKind.u64.wrap (t272)) 2).bind fun t273 => (if t271.size + t273.size ≤ 9223372036854775807 then (if (t271 ++ t273).size + a0.size ≤ 9223372036854775807 then (some ((t271 ++ t273) ++ a0, 0)) else (none)) else (none)))) else (none)))) = some (r1, r2) := h
 clear h
 by_cases c2 : (a0.size : Int) > 65536
 ·rw [if_pos c2] at H
  have c2b0 : decide (65536 < (a0.size : Int)) = true := decide_eq_true c2
  have c2b1 : decide (65536 < a0.size) = true := decide_eq_true (by omega)
  clear c2
  simp only [Option.some.injEq, Prod.mk.injEq] at H
  obtain ⟨rfl, rfl⟩ := H
  go_enter Try.func59, Try.ntmps59
  go_wp2
  go_ret2
  exact ⟨by first | rfl | (simp; done) | (simp [*]; done), bl_ HB⟩
 rw [if_neg c2] at H
 have c2b0 : decide (65536 < (a0.size : Int)) = false := decide_eq_false c2
 have c2b1 : decide (65536 < a0.size) = false := decide_eq_false (by omega)
 clear c2
 obtain ⟨t271, A30, H⟩ := Option.bind_eq_some_iff.mp H
 try dsimp only at H
 have A3 := Aside0.mk A30
 clear A30
 by_cases c4 : t271.size + a0.size ≤ 9223372036854775807
 rotate_left
 ·rw [if_neg c4] at H
  exact absurd H (by simp)


 rw [if_pos c4] at H
 have c4b0 := eq_true c4
 have c4b1 : decide (t271.size + a0.size ≤ 9223372036854775807) = true := decide_eq_true c4
 try have c4b2 : (9223372036854775807 < t271.size + a0.size) = False := eq_false (Nat.not_lt.2 c4)
 clear c4
 obtain ⟨t272, A50, H⟩ := Option.bind_eq_some_iff.mp H
 try dsimp only at H
 have A5 := Aside0.mk A50
 clear A50
 obtain ⟨t273, A60, H⟩ := Option.bind_eq_some_iff.mp H
 try dsimp only at H
 have A6 := Aside0.mk A60
 clear A60
 by_cases c7 : t271.size + t273.size ≤ 9223372036854775807
 rotate_left
 ·rw [if_neg c7] at H
  exact absurd H (by simp)
 rw [if_pos c7] at H
 have c7b0 := eq_true c7
 have c7b1 : decide (t271.size + t273.size ≤ 9223372036854775807) = true := decide_eq_true c7
 try have c7b2 : (9223372036854775807 < t271.size + t273.size) = False := eq_false (Nat.not_lt.2 c7)
 clear c7
 by_cases c8 : (t271 ++ t273).size + a0.size ≤ 9223372036854775807
 rotate_left
 ·rw [if_neg c8] at H
  exact absurd H (by simp)
 rw [if_pos c8] at H
 have c8b0 := eq_true c8
 have c8b1 : decide ((t271 ++ t273).size + a0.size ≤ 9223372036854775807) = true := decide_eq_true c8
 try have c8b2 : (9223372036854775807 < (t271 ++ t273).size + a0.size) = False := eq_false (Nat.not_lt.2 c8)
 clear c8
 simp only [Option.some.injEq, Prod.mk.injEq] at H
 obtain ⟨rfl, rfl⟩ := H
 (try (have c8b0x := c8b0; simp only [ByteArray.size_extract, ByteArray.size_append, Nat.min_self, Nat.sub_zero] at c8b0x))
 (try (have c8b1x := c8b1; simp only [ByteArray.size_extract, ByteArray.size_append, Nat.min_self, Nat.sub_zero] at c8b1x))
 (try (have c8b2x := c8b2; simp only [ByteArray.size_extract, ByteArray.size_append, Nat.min_self, Nat.sub_zero] at c8b2x))
 go_enter Try.func59, Try.ntmps59
 go_wp2_with (first | ((with_reducible refine gate_callee (f := 91) rfl ?_); refine goesL_ (some 11) rfl rfl Try.func91 (by kernel_rfl) rfl #[.int .u64 (IntKind.u64.wrap ((a0.size : Int))), .int .i64 4] rfl (ar_) ?_; (with_reducible refine (pack_fixed.calls k (IntKind.u64.wrap ((a0.size : Int))) 4 t271 _ A3.out).mono ?_); rintro e w9 ⟨rfl, hb⟩; refine ⟨_, rfl, ?_⟩; replace HB := Aside0.mk (below_step (bl_ HB) hb); (try clear hb)) | ((with_reducible refine gate_callee (f := 92) rfl ?_); refine goesL_ (some 16) rfl rfl Try.func92 (by kernel_rfl) rfl #[.string (t271 ++ a0)] rfl (ar_) ?_; (with_reducible refine (pack_Sum.calls k (t271 ++ a0) t272 _ A5.out).mono ?_); rintro e w' ⟨rfl, ⟨nd, rfl⟩⟩; refine ⟨_, rfl, ?_⟩) | ((with_reducible refine gate_callee (f := 91) rfl ?_); refine goesL_ (some 18) rfl rfl Try.func91 (by kernel_rfl) rfl #[.int .u64 (IntKind.u64.wrap (t272)), .int .i64 2] rfl (ar_) ?_; (with_reducible refine (pack_fixed.calls k (IntKind.u64.wrap (t272)) 2 t273 _ A6.out).mono ?_); rintro e w10 ⟨rfl, hb⟩; refine ⟨_, rfl, ?_⟩; replace HB := Aside0.mk (below_step (bl_ HB) hb); (try clear hb)))
 go_ret2
 exact ⟨by first | rfl | (simp; done) | (simp [*]; done), bl_ HB⟩
/-! ### pack_TakeFrame: function 38 -/
def pack_TakeFrame.f (k : Nat) (a0 : ByteArray) : Option (ByteArray × ByteArray × Int) := if (a0.size : Int) < 4 then (none) else (if 0 ≤ 4 then (if 4 ≤ (a0.size : Int) then ((pack_value.f k (a0.extract 0 4)).bind fun t274 => (if t274 > 65536 then (none) else (if (a0.size : Int) < 6 then (none) else (if t274 > (IntKind.u64.wrap (wrap64 ((a0.size : Int) - 6))) then (some ((⟨#[]⟩ : ByteArray), (⟨#[]⟩ : ByteArray), 3)) else (if 6 ≤ (wrap64 (6 + (wrap64 (t274)))) then (if (wrap64 (6 + (wrap64 (t274)))) ≤ (a0.size : Int) then ((pack_Frame.f k (a0.extract 6 ((wrap64 (6 + (wrap64 (t274)))) : Int).toNat)).bind fun bt275 => (if 0 ≤ (wrap64 (6 + (wrap64 (t274)))) then (if bt275.1.toList = (a0.extract 0 ((wrap64 (6 + (wrap64 (t274)))) : Int).toNat).toList then (some (a0.extract 6 ((wrap64 (6 + (wrap64 (t274)))) : Int).toNat, a0.extract ((wrap64 (6 + (wrap64 (t274)))) : Int).toNat a0.size, 0)) else (some ((⟨#[]⟩ : ByteArray), (⟨#[]⟩ : ByteArray), 4))) else (none))) else (none)) else (none)))))) else (none)) else (none))
theorem pack_TakeFrame.mono : ∀ a0 k, LeO (pack_TakeFrame.f k a0) (pack_TakeFrame.f (k + 1) a0) := by
 intro a0 k
 unfold pack_TakeFrame.f
 repeat' first | (with_reducible first | exact pack_Frame.mono _ _ | exact pack_value.mono _ _ | exact LeO.refl _ | exact LeO.none _ | refine LeO.ite ?_ ?_ | refine LeO.bind ?_ (fun _ => ?_)) | exact pack_Frame.mono _ _ | exact pack_value.mono _ _ | exact LeO.none _ | refine LeO.ite ?_ ?_ | refine LeO.bind ?_ (fun _ => ?_)
set_option maxHeartbeats 80000000 in
set_option maxRecDepth 100000 in
theorem pack_TakeFrame.calls (k : Nat) (a0 : ByteArray) (r1 : ByteArray) (r2 : ByteArray) (r3 : Int) (w : World) (h : pack_TakeFrame.f k a0 = some (r1, r2, r3)) :
  Calls Try.prog 38 #[.string a0] w fun e w' => e = .returned (.tuple #[.string r1, .string r2, .int .i64 r3]) ∧ Below w.heap.size w w' := by
 have HB := Aside0.mk (Below.refl w.heap.size w)
 have H : (if (a0.size : Int) < 4 then (none) else (if 0 ≤ 4 then (if 4 ≤ (a0.size : Int) then ((pack_value.f k (a0.extract 0 4)).bind fun t274 => (if t274 > 65536 then (none) else (if (a0.size : Int) < 6 then (none) else (if t274 > (IntKind.u64.wrap (wrap64 ((a0.size : Int) - 6))) then (some ((⟨#[]⟩ : ByteArray), (⟨#[]⟩ : ByteArray), 3)) else (if 6 ≤ (wrap64 (6 + (wrap64 (t274)))) then (if (wrap64 (6 + (wrap64 (t274)))) ≤ (a0.size : Int) then ((pack_Frame.f k (a0.extract 6 ((wrap64 (6 + (wrap64 (t274)))) : Int).toNat)).bind fun bt275 => (if 0 ≤ (wrap64 (6 + (wrap64 (t274)))) then (if bt275.1.toList = (a0.extract 0 ((wrap64 (6 + (wrap64 (t274)))) : Int).toNat).toList then (some (a0.extract 6 ((wrap64 (6 + (wrap64 (t274)))) : Int).toNat, a0.extract ((wrap64 (6 + (wrap64 (t274)))) : Int).toNat a0.size, 0)) else (some ((⟨#[]⟩ : ByteArray), (⟨#[]⟩ : ByteArray), 4))) else (none))) else (none)) else (none)))))) else (none)) else (none))) = some (r1, r2, r3) := h
 clear h
 by_cases c2 : (a0.size : Int) < 4
 ·rw [if_pos c2] at H
  exact absurd H (by simp)
 rw [if_neg c2] at H
 have c2b0 : decide ((a0.size : Int) < 4) = false := decide_eq_false c2
 have c2b1 : decide (a0.size < 4) = false := decide_eq_false (by omega)
 clear c2
 by_cases c3 : 0 ≤ 4
 rotate_left
 ·rw [if_neg c3] at H
  exact absurd H (by simp)


 rw [if_pos c3] at H
 have c3b0 := eq_true c3
 have c3b1 : decide (0 ≤ 4) = true := decide_eq_true c3
 clear c3
 by_cases c4 : 4 ≤ (a0.size : Int)
 rotate_left
 ·rw [if_neg c4] at H
  exact absurd H (by simp)
 rw [if_pos c4] at H
 have c4b0 := eq_true c4
 have c4b1 : decide (4 ≤ (a0.size : Int)) = true := decide_eq_true c4
 clear c4
 obtain ⟨t274, A50, H⟩ := Option.bind_eq_some_iff.mp H
 try dsimp only at H
 have A5 := Aside0.mk A50
 clear A50
 by_cases c6 : t274 > 65536
 ·rw [if_pos c6] at H
  exact absurd H (by simp)
 rw [if_neg c6] at H
 have c6b0 : decide (65536 < t274) = false := decide_eq_false c6
 clear c6
 by_cases c7 : (a0.size : Int) < 6
 ·rw [if_pos c7] at H
  exact absurd H (by simp)
 rw [if_neg c7] at H
 have c7b0 : decide ((a0.size : Int) < 6) = false := decide_eq_false c7
 have c7b1 : decide (a0.size < 6) = false := decide_eq_false (by omega)
 clear c7
 by_cases c8 : t274 > (IntKind.u64.wrap (wrap64 ((a0.size : Int) - 6)))
 ·rw [if_pos c8] at H
  have c8b0 : decide ((IntKind.u64.wrap (wrap64 ((a0.size : Int) - 6))) < t274) = true := decide_eq_true c8
  clear c8
  simp only [Option.some.injEq, Prod.mk.injEq] at H
  obtain ⟨rfl, rfl, rfl⟩ := H
  go_enter Try.func38, Try.ntmps38
  go_wp2_with (first | (go_at_call 61; (with_reducible refine (pack_value.calls k (a0.extract 0 4) t274 _ A5.out).mono ?_); rintro e w' ⟨rfl, ⟨nd, rfl⟩⟩; (try first | exact ⟨rfl, _, World.drewN_drewN _ _ _⟩ | exact ⟨rfl, _, Eq.trans (World.drewN_drewN _ _ _) (congrArg (World.drewN _) (Nat.add_assoc _ _ _))⟩)))
  repeat (go_quiet (first | (go_at_call 61; (with_reducible refine (pack_value.calls k (a0.extract 0 4) t274 _ A5.out).mono ?_); rintro e w' ⟨rfl, ⟨nd, rfl⟩⟩; (try first | exact ⟨rfl, _, World.drewN_drewN _ _ _⟩ | exact ⟨rfl, _, Eq.trans (World.drewN_drewN _ _ _) (congrArg (World.drewN _) (Nat.add_assoc _ _ _))⟩))); try go_wp2_with (first | (go_at_call 61; (with_reducible refine (pack_value.calls k (a0.extract 0 4) t274 _ A5.out).mono ?_); rintro e w' ⟨rfl, ⟨nd, rfl⟩⟩; (try first | exact ⟨rfl, _, World.drewN_drewN _ _ _⟩ | exact ⟨rfl, _, Eq.trans (World.drewN_drewN _ _ _) (congrArg (World.drewN _) (Nat.add_assoc _ _ _))⟩))))
  go_ret3
  exact ⟨by first | rfl | (simp; done) | (simp [*]; done), bl_ HB⟩
 rw [if_neg c8] at H
 have c8b0 : decide ((IntKind.u64.wrap (wrap64 ((a0.size : Int) - 6))) < t274) = false := decide_eq_false c8
 clear c8
 by_cases c9 : 6 ≤ (wrap64 (6 + (wrap64 (t274))))
 rotate_left
 ·rw [if_neg c9] at H
  exact absurd H (by simp)
 rw [if_pos c9] at H
 have c9b0 := eq_true c9
 have c9b1 : decide (6 ≤ (wrap64 (6 + (wrap64 (t274))))) = true := decide_eq_true c9
 clear c9
 by_cases c10 : (wrap64 (6 + (wrap64 (t274)))) ≤ (a0.size : Int)
 rotate_left
 ·rw [if_neg c10] at H
  exact absurd H (by simp)
 rw [if_pos c10] at H
 have c10b0 := eq_true c10
 have c10b1 : decide ((wrap64 (6 + (wrap64 (t274)))) ≤ (a0.size : Int)) = true := decide_eq_true c10
 clear c10
 obtain ⟨⟨t275, t276⟩, A110, H⟩ := Option.bind_eq_some_iff.mp H
 try dsimp only at H
 have A11 := Aside0.mk A110
 clear A110
 obtain ⟨ji12, hji12⟩ : ∃ j_ : Int, (wrap64 (6 + (wrap64 (t274)))) = j_ := ⟨_, rfl⟩
 replace H : (if 0 ≤ (ji12) then (if t275.toList = (a0.extract 0 ((ji12) : Int).toNat).toList then (some (a0.extract 6 ((ji12) : Int).toNat, a0.extract ((ji12) : Int).toNat a0.size, 0)) else (some ((⟨#[]⟩ : ByteArray), (⟨#[]⟩ : ByteArray), 4))) else (none)) = some (r1, r2, r3) := by first | (rw [hji12] at H; exact H) | (simp only [hji12] at H ⊢; exact H)
 (try rw [hji12] at c9b0)
 (try rw [hji12] at c9b1)
 (try rw [hji12] at c10b0)
 (try rw [hji12] at c10b1)
 (try rw [hji12] at A5)
 (try rw [hji12] at A11)
 have hji12w : (IntKind.i64.wrap (6 + (wrap64 (t274)))) = ji12 := (i64_w _).trans hji12
 by_cases c13 : 0 ≤ (ji12)
 rotate_left
 ·rw [if_neg c13] at H
  exact absurd H (by simp)
 rw [if_pos c13] at H
 have c13b0 := eq_true c13
 have c13b1 : decide (0 ≤ (ji12)) = true := decide_eq_true c13
 clear c13
 have c14b0 := eq_true (of_decide_eq_true (by first | (with_reducible assumption) | assumption) : (ji12) ≤ (a0.size : Int))
 by_cases c15 : t275.toList = (a0.extract 0 ((ji12) : Int).toNat).toList
 rotate_left
 ·rw [if_neg c15] at H
  have c15b0 : (t275.toList == (a0.extract 0 ((ji12) : Int).toNat).toList) = false := beq_eq_false_iff_ne.mpr c15
  have c15b1 : (t275.toList != (a0.extract 0 ((ji12) : Int).toNat).toList) = true := bne_iff_ne.mpr c15
  simp only [Option.some.injEq, Prod.mk.injEq] at H
  obtain ⟨rfl, rfl, rfl⟩ := H
  go_enter Try.func38, Try.ntmps38
  go_wp2_with (first | (go_at_call 61; (with_reducible refine (pack_value.calls k (a0.extract 0 4) t274 _ A5.out).mono ?_); rintro e w' ⟨rfl, ⟨nd, rfl⟩⟩; (try first | exact ⟨rfl, _, World.drewN_drewN _ _ _⟩ | exact ⟨rfl, _, Eq.trans (World.drewN_drewN _ _ _) (congrArg (World.drewN _) (Nat.add_assoc _ _ _))⟩)) | (go_at_call 59; (with_reducible refine (pack_Frame.calls k (a0.extract 6 ((ji12) : Int).toNat) t275 t276 _ A11.out).mono ?_); rintro e w21 ⟨rfl, hb⟩; replace HB := Aside0.mk (below_step (bl_ HB) hb); (try clear hb)))
  repeat (go_quiet (first | (go_at_call 61; (with_reducible refine (pack_value.calls k (a0.extract 0 4) t274 _ A5.out).mono ?_); rintro e w' ⟨rfl, ⟨nd, rfl⟩⟩; (try first | exact ⟨rfl, _, World.drewN_drewN _ _ _⟩ | exact ⟨rfl, _, Eq.trans (World.drewN_drewN _ _ _) (congrArg (World.drewN _) (Nat.add_assoc _ _ _))⟩)) | (go_at_call 59; (with_reducible refine (pack_Frame.calls k (a0.extract 6 ((ji12) : Int).toNat) t275 t276 _ A11.out).mono ?_); rintro e w21 ⟨rfl, hb⟩; replace HB := Aside0.mk (below_step (bl_ HB) hb); (try clear hb))); try go_wp2_with (first | (go_at_call 61; (with_reducible refine (pack_value.calls k (a0.extract 0 4) t274 _ A5.out).mono ?_); rintro e w' ⟨rfl, ⟨nd, rfl⟩⟩; (try first | exact ⟨rfl, _, World.drewN_drewN _ _ _⟩ | exact ⟨rfl, _, Eq.trans (World.drewN_drewN _ _ _) (congrArg (World.drewN _) (Nat.add_assoc _ _ _))⟩)) | (go_at_call 59; (with_reducible refine (pack_Frame.calls k (a0.extract 6 ((ji12) : Int).toNat) t275 t276 _ A11.out).mono ?_); rintro e w21 ⟨rfl, hb⟩; replace HB := Aside0.mk (below_step (bl_ HB) hb); (try clear hb))))
  go_ret3
  exact ⟨by first | rfl | (simp [errW_none, errW_some] <;> rfl) | (simp only [← hji12]; first | rfl | (simp [errW_none, errW_some] <;> rfl)) | (simp [*, errW_none, errW_some] <;> rfl), bl_ HB⟩
 rw [if_pos c15] at H
 have c15b0 : (t275.toList == (a0.extract 0 ((ji12) : Int).toNat).toList) = true := beq_iff_eq.mpr c15
 have c15b1 : (t275.toList != (a0.extract 0 ((ji12) : Int).toNat).toList) = false := bne_eq_false_iff_eq.mpr c15
 clear c15
 have c16b0 := eq_true (of_decide_eq_true (by first | (with_reducible assumption) | assumption) : 6 ≤ (ji12))
 have c17b0 := eq_true (of_decide_eq_true (by first | (with_reducible assumption) | assumption) : (ji12) ≤ (a0.size : Int))
 have c18b0 := eq_true (of_decide_eq_true (by first | (with_reducible assumption) | assumption) : 0 ≤ (ji12))
 have c19b0 := eq_true (of_decide_eq_true (by first | (with_reducible assumption) | assumption) : (ji12) ≤ (a0.size : Int))
 simp only [Option.some.injEq, Prod.mk.injEq] at H
 obtain ⟨rfl, rfl, rfl⟩ := H
 go_enter Try.func38, Try.ntmps38
 go_wp2_with (first | (go_at_call 61; (with_reducible refine (pack_value.calls k (a0.extract 0 4) t274 _ A5.out).mono ?_); rintro e w' ⟨rfl, ⟨nd, rfl⟩⟩; (try first | exact ⟨rfl, _, World.drewN_drewN _ _ _⟩ | exact ⟨rfl, _, Eq.trans (World.drewN_drewN _ _ _) (congrArg (World.drewN _) (Nat.add_assoc _ _ _))⟩)) | (go_at_call 59; (with_reducible refine (pack_Frame.calls k (a0.extract 6 ((ji12) : Int).toNat) t275 t276 _ A11.out).mono ?_); rintro e w20 ⟨rfl, hb⟩; replace HB := Aside0.mk (below_step (bl_ HB) hb); (try clear hb)))
 repeat (go_quiet (first | (go_at_call 61; (with_reducible refine (pack_value.calls k (a0.extract 0 4) t274 _ A5.out).mono ?_); rintro e w' ⟨rfl, ⟨nd, rfl⟩⟩; (try first | exact ⟨rfl, _, World.drewN_drewN _ _ _⟩ | exact ⟨rfl, _, Eq.trans (World.drewN_drewN _ _ _) (congrArg (World.drewN _) (Nat.add_assoc _ _ _))⟩)) | (go_at_call 59; (with_reducible refine (pack_Frame.calls k (a0.extract 6 ((ji12) : Int).toNat) t275 t276 _ A11.out).mono ?_); rintro e w20 ⟨rfl, hb⟩; replace HB := Aside0.mk (below_step (bl_ HB) hb); (try clear hb))); try go_wp2_with (first | (go_at_call 61; (with_reducible refine (pack_value.calls k (a0.extract 0 4) t274 _ A5.out).mono ?_); rintro e w' ⟨rfl, ⟨nd, rfl⟩⟩; (try first | exact ⟨rfl, _, World.drewN_drewN _ _ _⟩ | exact ⟨rfl, _, Eq.trans (World.drewN_drewN _ _ _) (congrArg (World.drewN _) (Nat.add_assoc _ _ _))⟩)) | (go_at_call 59; (with_reducible refine (pack_Frame.calls k (a0.extract 6 ((ji12) : Int).toNat) t275 t276 _ A11.out).mono ?_); rintro e w20 ⟨rfl, hb⟩; replace HB := Aside0.mk (below_step (bl_ HB) hb); (try clear hb))))
 go_ret3
 exact ⟨by first | rfl | (simp [errW_none, errW_some] <;> rfl) | (simp only [← hji12]; first | rfl | (simp [errW_none, errW_some] <;> rfl)) | (simp [*, errW_none, errW_some] <;> rfl), bl_ HB⟩
/-! ### snap_Load: function 33 -/
def snap_Load.f (k : Nat) (l0_0 : List (S71)) (a0_1 : Bool) (a0_2 : Int) : Option (Int × Int × List Int × ByteArray × Int) := (disk_Read.f k l0_0 a0_1 a0_2 (⟨#[115, 110, 97, 112]⟩ : ByteArray)).bind fun bt279 => (if bt279.2 = 6 then (some (0, 0, ([] : List Int), (⟨#[]⟩ : ByteArray), 0)) else (if bt279.2 = 0 then ((pack_TakeFrame.f k bt279.1).bind fun bt281 => ((snap_Decode.f k bt281.1).bind fun bt284 => (if bt281.2.2 = 0 then (if bt284.2.2.2.2 = 0 then (if bt281.2.1.toList = ([] : List UInt8) then (some (bt284.1, bt284.2.1, bt284.2.2.1, bt284.2.2.2.1, 0)) else (none)) else (none)) else (none)))) else (none)))
theorem snap_Load.mono : ∀ a0 a1 a2 k, LeO (snap_Load.f k a0 a1 a2) (snap_Load.f (k + 1) a0 a1 a2) := by
 intro a0 a1 a2 k
 unfold snap_Load.f
 repeat' first | (with_reducible first | exact disk_Read.mono _ _ _ _ _ | exact pack_TakeFrame.mono _ _ | exact snap_Decode.mono _ _ | exact LeO.refl _ | exact LeO.none _ | refine LeO.ite ?_ ?_ | refine LeO.bind ?_ (fun _ => ?_)) | exact disk_Read.mono _ _ _ _ _ | exact pack_TakeFrame.mono _ _ | exact snap_Decode.mono _ _ | exact LeO.none _ | refine LeO.ite ?_ ?_ | refine LeO.bind ?_ (fun _ => ?_)
set_option maxHeartbeats 80000000 in
set_option maxRecDepth 100000 in
theorem snap_Load.calls (k : Nat) (A0_0 : Option Addr) (c0_0 : Nat) (l0_0 : List (S71)) (a0_1 : Bool) (a0_2 : Int) (r1 : Int) (r2 : Int) (r3 : List Int) (r4 : ByteArray) (r5 : Int) (w : World) (hr0_0 : Kd.C k71 w A0_0 l0_0.length l0_0) (hc0_0 : l0_0.length ≤ c0_0) (h : snap_Load.f k l0_0 a0_1 a0_2 = some (r1, r2, r3, r4, r5)) :
  Calls Try.prog 33 #[.agg #[.slice A0_0 l0_0.length c0_0, .bool a0_1, .int .i64 a0_2]] w fun e w' => ∃ v2_ : Value, e = .returned (.tuple #[.agg #[.int .u64 r1, .int .u64 r2, v2_, .string r4], .int .i64 r5]) ∧ Kd.R (Kd.int .i64) 3 w' w.heap.size (fun _ => True) v2_ r3 ∧ Below w.heap.size w w' := by
 have hu24 := Try.underlying24
 have hu48 := Try.underlying48
 have HR0_0 := Aside0.mk hr0_0
 have HC0_0 := Aside0.mk hc0_0
 clear hr0_0 hc0_0
 have HB := Aside0.mk (Below.refl w.heap.size w)
 have H : ((disk_Read.f k l0_0 a0_1 a0_2 (⟨#[115, 110, 97, 112]⟩ : ByteArray)).bind fun bt279 => (if bt279.2 = 6 then (some (0, 0, ([] : List Int), (⟨#[]⟩ : ByteArray), 0)) else (if bt279.2 = 0 then ((pack_TakeFrame.f k bt279.1).bind fun bt281 => ((snap_Decode.f k bt281.1).bind fun bt284 => (if bt281.2.2 = 0 then (if bt284.2.2.2.2 = 0 then (if bt281.2.1.toList = ([] : List UInt8) then (some (bt284.1, bt284.2.1, bt284.2.2.1, bt284.2.2.2.1, 0)) else (none)) else (none)) else (none)))) else (none)))) = some (r1, r2, r3, r4, r5) := h
 clear h
 obtain ⟨⟨t279, t280⟩, A20, H⟩ := Option.bind_eq_some_iff.mp H
 try dsimp only at H
 have A2 := Aside0.mk A20
 clear A20
 by_cases c3 : t280 = 6
 ·rw [if_pos c3] at H
  have c3b0 : (t280 == 6) = true := beq_iff_eq.mpr c3
  have c3b1 : (t280 != 6) = false := bne_eq_false_iff_eq.mpr c3
  clear c3
  simp only [Option.some.injEq, Prod.mk.injEq] at H
  obtain ⟨rfl, rfl, rfl, rfl, rfl⟩ := H
  go_enter Try.func33, Try.ntmps33
  go_wp2_with (first | ((with_reducible refine gate_dst (N := 1) rfl ?_); refine bx_ 1 #[.slice A0_0 l0_0.length c0_0, .bool a0_1, .int .i64 a0_2] 24 ?_; intro gb277 hg w4 hbox hb; have BK277 := Aside0.mk (hbox); have GE277 := Aside0.mk (bs_0 hg HB); replace HB := Aside0.mk (below_step (bl_ HB) hb); clear hb hbox hg) | ((with_reducible refine gate_dst (N := 2) rfl ?_); refine bx_ 2 #[.int .u64 0, .int .u64 0, .slice none 0 0, .string (⟨#[]⟩ : ByteArray)] 48 ?_; intro gb278 hg w5 hbox hb; have BK278 := Aside0.mk (hbox); have GE278 := Aside0.mk (bs_1 hg HB GE277); replace HB := Aside0.mk (below_step (bl_1 HB GE277) hb); have NB277_278 := Aside0.mk (nb_ hg BK277); have NB278_277 := Aside0.mk (nc_ hg BK277); replace BK277 := Aside0.mk (bb_ BK277 hb); clear hb hbox hg; have hnb6 := NB277_278.out; have hnc6 := NB278_277.out; obtain ⟨hcz7_0, hcz7_1, hcz7_2, hfz7_0, hfz7_1, hfz7_2⟩ := c3_ BK277) | ((with_reducible refine gate_callee (f := 24) rfl ?_); refine goesL_ (some 12) rfl rfl Try.func24 (by kernel_rfl) rfl #[.agg #[.slice A0_0 l0_0.length c0_0, .bool a0_1, .int .i64 a0_2], .string (⟨#[115, 110, 97, 112]⟩ : ByteArray)] rfl (ar_) ?_; (with_reducible refine (disk_Read.calls k _ _ l0_0 a0_1 a0_2 (⟨#[115, 110, 97, 112]⟩ : ByteArray) t279 t280 _ ?side1 ?side2 A2.out).mono ?_); (case side1 => exact cl_ (Kd.C_below HR0_0.out HB.out)); (case side2 => exact HC0_0.out); rintro e w8 ⟨rfl, hb⟩; refine ⟨_, rfl, ?_⟩; replace BK277 := Aside0.mk (bb_ BK277 hb); replace BK278 := Aside0.mk (bb_ BK278 hb); replace HB := Aside0.mk (below_step (bl_2 HB GE277 GE278) hb); (try clear hb); obtain ⟨hcz9_0, hcz9_1, hcz9_2, hcz9_3, hfz9_0, hfz9_1, hfz9_2, hfz9_3⟩ := c4_ BK278))
  refine bodyPost_ret (results_ct rfl _ _ gb278 48 #[.int .u64 0, .int .u64 0, .slice none 0 0, .string (⟨#[]⟩ : ByteArray)] (0, 0) _ rfl (bp_0 BK278) Try.underlying48 rfl (by kernel_rfl)) rfl ?_
  exact ⟨_, by first | rfl | (simp; done) | (simp [*]; done), by first | exact Kd.R_nil _ _ _ _ _ | exact Kd.N_nil _ _ _ _ _ | exact Kd.V_nil _ _ _ _ _ | exact Kd.Q_nil _ _ _ _ _ | exact Kd.S_nil _ _ _ _ _, bl_2 HB GE277 GE278⟩
 rw [if_neg c3] at H
 have c3b0 : (t280 == 6) = false := beq_eq_false_iff_ne.mpr c3
 have c3b1 : (t280 != 6) = true := bne_iff_ne.mpr c3
 by_cases c10 : t280 = 0
 rotate_left
 ·rw [if_neg c10] at H
  exact absurd H (by simp)


 rw [if_pos c10] at H
 have c10b0 : (t280 == 0) = true := beq_iff_eq.mpr c10
 have c10b1 : (t280 != 0) = false := bne_eq_false_iff_eq.mpr c10
 clear c10
 obtain ⟨⟨t281, t282, t283⟩, A110, H⟩ := Option.bind_eq_some_iff.mp H
 try dsimp only at H
 have A11 := Aside0.mk A110
 clear A110
 obtain ⟨⟨t284, t285, t286, t289, t290⟩, A120, H⟩ := Option.bind_eq_some_iff.mp H
 try dsimp only at H
 have A12 := Aside0.mk A120
 clear A120
 by_cases c13 : t283 = 0
 rotate_left
 ·rw [if_neg c13] at H
  exact absurd H (by simp)
 rw [if_pos c13] at H
 have c13b0 : (t283 == 0) = true := beq_iff_eq.mpr c13
 have c13b1 : (t283 != 0) = false := bne_eq_false_iff_eq.mpr c13
 clear c13
 by_cases c14 : t290 = 0
 rotate_left
 ·rw [if_neg c14] at H
  exact absurd H (by simp)
 rw [if_pos c14] at H
 have c14b0 : (t290 == 0) = true := beq_iff_eq.mpr c14
 have c14b1 : (t290 != 0) = false := bne_eq_false_iff_eq.mpr c14
 clear c14
 by_cases c15 : t282.toList = ([] : List UInt8)
 rotate_left
 ·rw [if_neg c15] at H
  exact absurd H (by simp)
 rw [if_pos c15] at H
 have c15b0 : (t282.toList == ([] : List UInt8)) = true := beq_iff_eq.mpr c15
 have c15b1 : (t282.toList != ([] : List UInt8)) = false := bne_eq_false_iff_eq.mpr c15
 clear c15
 simp only [Option.some.injEq, Prod.mk.injEq] at H
 obtain ⟨rfl, rfl, rfl, rfl, rfl⟩ := H
 go_enter Try.func33, Try.ntmps33
 go_wp2_with (first | ((with_reducible refine gate_dst (N := 1) rfl ?_); refine bx_ 1 #[.slice A0_0 l0_0.length c0_0, .bool a0_1, .int .i64 a0_2] 24 ?_; intro gb277 hg w16 hbox hb; have BK277 := Aside0.mk (hbox); have GE277 := Aside0.mk (bs_0 hg HB); replace HB := Aside0.mk (below_step (bl_ HB) hb); clear hb hbox hg) | ((with_reducible refine gate_dst (N := 2) rfl ?_); refine bx_ 2 #[.int .u64 0, .int .u64 0, .slice none 0 0, .string (⟨#[]⟩ : ByteArray)] 48 ?_; intro gb278 hg w17 hbox hb; have BK278 := Aside0.mk (hbox); have GE278 := Aside0.mk (bs_1 hg HB GE277); replace HB := Aside0.mk (below_step (bl_1 HB GE277) hb); have NB277_278 := Aside0.mk (nb_ hg BK277); have NB278_277 := Aside0.mk (nc_ hg BK277); replace BK277 := Aside0.mk (bb_ BK277 hb); clear hb hbox hg; have hnb18 := NB277_278.out; have hnc18 := NB278_277.out; obtain ⟨hcz19_0, hcz19_1, hcz19_2, hfz19_0, hfz19_1, hfz19_2⟩ := c3_ BK277) | ((with_reducible refine gate_callee (f := 24) rfl ?_); refine goesL_ (some 12) rfl rfl Try.func24 (by kernel_rfl) rfl #[.agg #[.slice A0_0 l0_0.length c0_0, .bool a0_1, .int .i64 a0_2], .string (⟨#[115, 110, 97, 112]⟩ : ByteArray)] rfl (ar_) ?_; (with_reducible refine (disk_Read.calls k _ _ l0_0 a0_1 a0_2 (⟨#[115, 110, 97, 112]⟩ : ByteArray) t279 t280 _ ?side1 ?side2 A2.out).mono ?_); (case side1 => exact cl_ (Kd.C_below HR0_0.out HB.out)); (case side2 => exact HC0_0.out); rintro e w20 ⟨rfl, hb⟩; refine ⟨_, rfl, ?_⟩; replace BK277 := Aside0.mk (bb_ BK277 hb); replace BK278 := Aside0.mk (bb_ BK278 hb); replace HB := Aside0.mk (below_step (bl_2 HB GE277 GE278) hb); (try clear hb)) | ((with_reducible refine gate_callee (f := 38) rfl ?_); refine goesL_ (some 26) rfl rfl Try.func38 (by kernel_rfl) rfl #[.string t279] rfl (ar_) ?_; (with_reducible refine (pack_TakeFrame.calls k t279 t281 t282 t283 _ A11.out).mono ?_); rintro e w21 ⟨rfl, hb⟩; refine ⟨_, rfl, ?_⟩; replace BK277 := Aside0.mk (bb_ BK277 hb); replace BK278 := Aside0.mk (bb_ BK278 hb); replace HB := Aside0.mk (below_step (bl_2 HB GE277 GE278) hb); (try clear hb)) | ((with_reducible refine gate_callee (f := 27) rfl ?_); refine goesL_ (some 32) rfl rfl Try.func27 (by kernel_rfl) rfl #[.string t281] rfl (ar_) ?_; (with_reducible refine (snap_Decode.calls k t281 t284 t285 t286 t289 t290 _ A12.out).mono ?_); rintro e w22 ⟨v287, rfl, ho0, hb⟩; refine ⟨_, rfl, ?_⟩; have HO288 := Aside0.mk (Kd.R_lower ho0 (below_size (bl_2 HB GE277 GE278))); replace BK277 := Aside0.mk (bb_ BK277 hb); replace BK278 := Aside0.mk (bb_ BK278 hb); replace HB := Aside0.mk (below_step (bl_2 HB GE277 GE278) hb); (try clear hb); (try clear ho0)) | ((with_reducible refine gate_dst (N := 8) rfl ?_); refine bx_ 8 #[.int .u64 0, .int .u64 0, .slice none 0 0, .string (⟨#[]⟩ : ByteArray)] 48 ?_; intro gb291 hg w23 hbox hb; replace HO288 := Aside0.mk (Kd.R_below (by (with_reducible repeat (first | apply Kd.R_alloc | apply Kd.R_drewN | apply Kd.R_drew)); exact HO288.out) hb); have BK291 := Aside0.mk (hbox); have GE291 := Aside0.mk (bs_2 hg HB GE277 GE278); replace HB := Aside0.mk (below_step (bl_2 HB GE277 GE278) hb); have NB277_291 := Aside0.mk (nb_ hg BK277); have NB291_277 := Aside0.mk (nc_ hg BK277); replace BK277 := Aside0.mk (bb_ BK277 hb); have NB278_291 := Aside0.mk (nb_ hg BK278); have NB291_278 := Aside0.mk (nc_ hg BK278); replace BK278 := Aside0.mk (bb_ BK278 hb); clear hb hbox hg; have hnb24 := NB291_277.out; have hnc24 := NB277_291.out; have hnb25 := NB291_278.out; have hnc25 := NB278_291.out; obtain ⟨hcz26_0, hcz26_1, hcz26_2, hcz26_3, hfz26_0, hfz26_1, hfz26_2, hfz26_3⟩ := c4_ BK291; obtain ⟨Ao27, co27, eo27⟩ := Kd.R_slice HO288.out; subst eo27; obtain ⟨hcz28_0, hcz28_1, hcz28_2, hcz28_3, hfz28_0, hfz28_1, hfz28_2, hfz28_3⟩ := c4_ BK278))
 refine bodyPost_ret (results_ct rfl _ _ gb278 48 #[.int .u64 t284, .int .u64 t285, .slice Ao27 t286.length co27, .string t289] (0, 0) _ rfl (bp_1 BK278 NB278_291) Try.underlying48 rfl (by kernel_rfl)) rfl ?_
 exact ⟨_, by first | rfl | (simp; done) | (simp [*]; done), by (with_reducible repeat (first | apply Kd.R_alloc | apply Kd.R_drewN | apply Kd.R_drew)); exact Kd.R_mono (Kd.R_far (p := ⟨gb278, 3, none⟩) (Kd.R_far (p := ⟨gb278, 2, none⟩) (Kd.R_far (p := ⟨gb278, 1, none⟩) (Kd.R_far (p := ⟨gb278, 0, none⟩) (Kd.R_far (p := ⟨gb291, 3, none⟩) (Kd.R_far (p := ⟨gb291, 2, none⟩) (Kd.R_far (p := ⟨gb291, 1, none⟩) (Kd.R_far (p := ⟨gb291, 0, none⟩) (Kd.R_types (Kd.R_types HO288.out BK291.out (by decide)) BK278.out (by decide)) (fun _ hk => hk.1.2) (.int .u64 t284)) (fun _ hk => hk.1.2) (.int .u64 t285)) (fun _ hk => hk.1.2) (.slice Ao27 t286.length co27)) (fun _ hk => hk.1.2) (.string t289)) (fun _ hk => hk.2) (.int .u64 t284)) (fun _ hk => hk.2) (.int .u64 t285)) (fun _ hk => hk.2) (.slice Ao27 t286.length co27)) (fun _ hk => hk.2) (.string t289)) (fun _ hk => trivial), bl_3 HB GE277 GE278 GE291⟩
/-! ### api_File_48: function 48 -/
def api_File_48.f (l0 : List (S71)) : Option ((List (S71))) := (some (([] : List (S71)) : List (S71))).bind fun y292 => (if y292.length + l0.length < 3518437208883 then (some (y292 ++ l0)) else (none))
set_option maxHeartbeats 80000000 in
set_option maxRecDepth 100000 in
theorem api_File_48.calls_ (A0 : Option Addr) (hA_ : A0.isNone = false) (c0 : Nat) (l0 : List (S71)) (r : List (S71)) (w : World) (hr0 : Kd.C k71 w A0 l0.length l0) (hc0 : l0.length ≤ c0) (h : api_File_48.f l0 = some r) :
  Calls Try.prog 48 #[.slice A0 l0.length c0] w fun e w' => ∃ v0_ : Value, e = .returned (v0_) ∧ Kd.R k71 71 w' w.heap.size (fun _ => True) v0_ r ∧ Below w.heap.size w w' := by
 have HR0 := Aside0.mk hr0
 have HC0 := Aside0.mk hc0
 clear hr0 hc0
 have q_ : ∀ (w : World) (n c n' c' : Nat), (binOp .eql 22 (.slice A0 n c) (.slice none n' c')).run Try.prog w = .ok (.bool false) w := fun w n c n' c' => by rw [Lib.run_eql_slice_nil w _ _ A0 n c n' c' Try.underlying22, hA_]
 have HB := Aside0.mk (Below.refl w.heap.size w)
 have H : ((some (([] : List (S71)) : List (S71))).bind fun y292 => (if y292.length + l0.length < 3518437208883 then (some (y292 ++ l0)) else (none))) = some r := h
 clear h
 obtain ⟨y292, hy292⟩ : ∃ y_ : List (S71), y_ = (([] : List (S71))) := ⟨_, rfl⟩
 replace H : (if y292.length + l0.length < 3518437208883 then (some (y292 ++ l0)) else (none)) = some r := by first | (rw [hy292]; with_reducible exact H) | (have H2_ := (Option.bind_some _ _).symm.trans H; rw [hy292]; with_reducible exact H2_) | (have H2_ := (Option.bind_some _ _).symm.trans H; with_reducible exact H2_) | with_reducible exact H | (rw [hy292]; exact H) | exact H
 have Ny292 := Aside0.mk hy292
 clear hy292
 by_cases c2 : y292.length + l0.length < 3518437208883
 rotate_left
 ·rw [if_neg c2] at H
  exact absurd H (by simp)
 rw [if_pos c2] at H
 have LMc2 := Aside0.mk c2
 clear c2
 obtain ⟨y295, hy295⟩ : ∃ y_ : List (S71), y_ = (y292 ++ l0) := ⟨_, rfl⟩
 replace H : (some y295) = some r := by first | (rw [hy295]; with_reducible exact H) | (have H2_ := (Option.bind_some _ _).symm.trans H; rw [hy295]; with_reducible exact H2_) | (have H2_ := (Option.bind_some _ _).symm.trans H; with_reducible exact H2_) | with_reducible exact H | (rw [hy295]; exact H) | exact H
 have Ny295 := Aside0.mk hy295
 clear hy295
 obtain rfl := Option.some.inj H
 go_enter Try.func48, Try.ntmps48
 go_wp2_with (first | ((with_reducible refine gate_dst (N := 5) rfl ?_); refine Kd.R_lit k71 _ 71 ?hg (N := 5) ?hd (xs := ([] : List (S71))) (inner := []) (ok := fun _ => True) (okp := fun _ => True) ?hr ?hp (fun _ hk => hk) trivial (Below.refl _ _) (Nat.le_refl _) (by simp) ?_; (case hd => rfl); (case hg => rfl); (case hr => first | (go_simp; done) | (go_simp; rfl)); (case hp => exact (Reps.none _ _)); intro v293 w3 ho4 hb hg_ hnew_; clear hg_ hnew_; (first | rw [← Ny292.out] at ho4 | (simp only [Int.reduceToNat] at ho4; rw [← Ny292.out] at ho4)); have HO294 := Aside0.mk (Kd.R_lower ho4 (below_size (bl_ HB))); replace HB := Aside0.mk (below_step (bl_ HB) hb); clear hb ho4) | ((with_reducible refine gate_builtin (b := .append) (xs := #[.tmp 5, .tmp 6]) rfl ?_); at_builtin; refine Kd.R_append_rows k71 (w0 := w) w.heap.size rfl (.tmp 5) (.tmp 6) 22 71 (.agg #[(.string ⟨#[]⟩), (.string ⟨#[]⟩), (.int .i64 0)]) 40 rfl Try.underlying22 info71 rfl (by decide) (by omega) v293 y292 l0 _ _ _ (fun _ => True) (fun _ => False) rfl rfl ?aO ?aR (fun _ _ h => h) (fun _ h => h.elim) ?aF ?aB ?aS ?aL ?_; (case aR => exact cl_ (Kd.C_below HR0.out HB.out)); (case aB => exact (bl_ HB)); (case aF => exact (fun _ _ => trivial)); (case aO => exact (by (with_reducible repeat (first | apply Kd.R_alloc | apply Kd.R_drewN | apply Kd.R_drew)); exact HO294.out)); (case aS => exact (below_size (bl_ HB))); (case aL => have := LMc2.out; omega); intro v296 w5 ho hb hg hat; rw [← Ny295.out] at ho; replace HB := Aside0.mk (hb); have HO297 := Aside0.mk (ho); clear HO294; clear ho hb hg hat))
 go_ret
 exact ⟨_, by first | rfl | (simp; done) | (simp [*]; done), by (with_reducible repeat (first | apply Kd.R_alloc | apply Kd.R_drewN | apply Kd.R_drew)); exact HO297.out, bl_ HB⟩
set_option maxRecDepth 100000 in
theorem api_File_48.calls (A0 : Option Addr) (c0 : Nat) (l0 : List (S71)) (r : List (S71)) (w : World) (hr0 : Kd.C k71 w A0 l0.length l0) (hc0 : l0.length ≤ c0) (h : api_File_48.f l0 = some r) :
  Calls Try.prog 48 #[.slice A0 l0.length c0] w fun e w' => ∃ v0_ : Value, e = .returned (v0_) ∧ Kd.R k71 71 w' w.heap.size (fun _ => True) v0_ r ∧ Below w.heap.size w w' := by
  cases A0 with
  | some a => exact api_File_48.calls_ _ rfl _ _ _ _ hr0 hc0 h
  | none =>
    have hl : l0 = [] := by
      cases l0 with
      | nil => rfl
      | cons x l0 => obtain ⟨_, _, hx⟩ := hr0; obtain ⟨a, ha, _⟩ := hx (by simp); cases ha
    subst hl
    have hr : r = [] := by simpa [api_File_48.f, eq_comm] using h
    subst hr
    have q_ : ∀ (w : World) (n c n' c' : Nat), (binOp .eql 22 (.slice none n c) (.slice none n' c')).run Try.prog w = .ok (.bool true) w := fun w n c n' c' => by rw [Lib.run_eql_slice_nil w _ _ none n c n' c' Try.underlying22]; rfl
    go_enter Try.func48, Try.ntmps48
    go_wp2
    go_ret
    exact ⟨_, rfl, Kd.R_nil _ _ _ _ _, Below.refl _ _⟩

/-! ### disk_named: function 111 -/
def disk_named.f (a0 : ByteArray) : Option (Bool) := if a0.toList = ([] : List UInt8) then (none) else (some (decide ((a0.size : Int) ≤ 32)))
set_option maxHeartbeats 80000000 in
set_option maxRecDepth 100000 in
theorem disk_named.calls (a0 : ByteArray) (r : Bool) (w : World) (h : disk_named.f a0 = some r) :
  Calls Try.prog 111 #[.string a0] w fun e w' => e = .returned (.bool r) ∧ Drawn0 w w' := by
 have H : (if a0.toList = ([] : List UInt8) then (none) else (some (decide ((a0.size : Int) ≤ 32)))) = some r := h
 clear h
 by_cases c2 : a0.toList = ([] : List UInt8)
 ·rw [if_pos c2] at H
  exact absurd H (by simp)
 rw [if_neg c2] at H
 have c2b0 : (a0.toList == ([] : List UInt8)) = false := beq_eq_false_iff_ne.mpr c2
 have c2b1 : (a0.toList != ([] : List UInt8)) = true := bne_iff_ne.mpr c2
 obtain rfl := Option.some.inj H
 go_enter Try.func111, Try.ntmps111
 go_wp2
 go_ret
 exact ⟨by first | rfl | (simp; done) | (simp [*]; done), dr_⟩

end Go.Proofs.Ytpigjmjbfpipnaa.PC
