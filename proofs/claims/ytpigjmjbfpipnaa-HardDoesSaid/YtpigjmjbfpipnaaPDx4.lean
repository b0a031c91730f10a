-- By a program of this session.
import Derived.Test.YtpigjmjbfpipnaaPDx0
namespace Go.Proofs.Ytpigjmjbfpipnaa.PD
open Go.RowKit YtpigjmjbfpipnaaW.PrintWords YtpigjmjbfpipnaaW.PrintLast YtpigjmjbfpipnaaW.PrintMore Sh Ytpigjmjbfpipnaa.Op
attribute [local go_sem] max2_int min2_int max_two min_two max_three min_three max_four min_four
set_option linter.unusedVariables false
set_option maxHeartbeats 80000000
set_option maxRecDepth 100000
set_option linter.unusedSimpArgs false

def pack_fixed.l0 : Nat → Int → Int → List Int → Int → Int → Option (ByteArray)
 | 0, _, _, _, _, _ => none
 | k + 1, x0, x1, x5, x10, x11 => if x11 < x10 then (if 0 ≤ (wrap64 (8 * x11)) then (if 0 ≤ (wrap64 ((wrap64 (x1 - 1)) - x11)) then (if (wrap64 ((wrap64 (x1 - 1)) - x11)) < (x5.length : Int) then (pack_fixed.l0 k x0 x1 (x5.set ((wrap64 ((wrap64 (x1 - 1)) - x11)) : Int).toNat ((shr .u64 x0 (wrap64 (8 * x11))) % 256)) x10 (wrap64 (x11 + 1))) else (none)) else (none)) else (none)) else (some (strOfNums x5))
def pack_fixed.f (k : Nat) (a0 : Int) (a1 : Int) : Option (ByteArray) := if 0 ≤ a1 then (if (a1 : Int).toNat ≤ 281474976710656 then ((some (List.replicate (a1 : Int).toNat 0 : List Int)).bind fun y131 => (pack_fixed.l0 k a0 a1 y131 (y131.length : Int) 0)) else (none)) else (none)
theorem pack_fixed.mono_l : ∀ k, (∀ y0 y1 y2 y3 y4, LeO (pack_fixed.l0 k y0 y1 y2 y3 y4) (pack_fixed.l0 (k + 1) y0 y1 y2 y3 y4))
 | 0 => fun _ _ _ _ _ r h => by simp [pack_fixed.l0] at h
 | k + 1 => by
  have ih0 := pack_fixed.mono_l k
  ·intro y0 y1 y2 y3 y4
   unfold pack_fixed.l0
   repeat' with_reducible first | apply ih0 | apply LeO.refl | apply LeO.none | apply LeO.ite | refine LeO.bind ?_ (fun _ => ?_)
theorem pack_fixed.mono : ∀ a0 a1 k, LeO (pack_fixed.f k a0 a1) (pack_fixed.f (k + 1) a0 a1) := by
 intro a0 a1 k
 have ih0 := pack_fixed.mono_l k
 unfold pack_fixed.f
 repeat' with_reducible first | apply ih0 | apply LeO.refl | apply LeO.none | apply LeO.ite | refine LeO.bind ?_ (fun _ => ?_)
theorem pack_fixed.calls (k : Nat) (a0 : Int) (a1 : Int) (r : ByteArray) (w : World) (h : pack_fixed.f k a0 a1 = some r) :
  Calls Try.prog 91 #[.int .u64 a0, .int .i64 a1] w fun e w' => e = .returned (.string r) ∧ Below w.heap.size w w' := by
 have HB := a_ (Below.refl w.heap.size w)
 have H : (if 0 ≤ a1 then (if (a1 : Int).toNat ≤ 281474976710656 then ((some (List.replicate (a1 : Int).toNat 0 : List Int)).bind fun y131 => (pack_fixed.l0 k a0 a1 y131 (y131.length : Int) 0)) else (none)) else (none)) = some r := h
 clear h
 by_cases c3 : 0 ≤ a1
 rotate_left
 ·rw [if_neg c3] at H
  exact absurd H (by simp)


 rw [if_pos c3] at H
 have c3b0 := eq_true c3
 have c3b1 : decide (0 ≤ a1) = true := decide_eq_true c3
 clear c3
 by_cases c4 : (a1 : Int).toNat ≤ 281474976710656
 rotate_left
 ·rw [if_neg c4] at H
  exact absurd H (by simp)
 rw [if_pos c4] at H
 have c4b0 := eq_true c4
 have c4b1 : decide ((a1 : Int).toNat ≤ 281474976710656) = true := decide_eq_true c4
 clear c4
 obtain ⟨y131, hy131⟩ : ∃ y_ : List Int, y_ = (List.replicate (a1 : Int).toNat 0) := ⟨_, rfl⟩
 replace H : (pack_fixed.l0 k a0 a1 y131 (y131.length : Int) 0) = some r := by first | (rw [hy131]; with_reducible exact H) | (have H2_ := (Option.bind_some _ _).symm.trans H; rw [hy131]; with_reducible exact H2_) | (have H2_ := (Option.bind_some _ _).symm.trans H; with_reducible exact H2_) | with_reducible exact H | (rw [hy131]; exact H) | exact H
 have Ny131 := a_ hy131
 clear hy131
 have H' := a_ H
 clear H
 go_enter Try.func91, Try.ntmps91
 go_wp2_with (first | ((with_reducible refine gd_ 8 ?_); refine Kd.R_make (Kd.int .u8) _ 5 rfl (N := 8) rfl 111 _ _ rfl a1 rfl rfl Try.underlying111 (.int .u8 0) 1 info5 rfl (by decide) (by omega) 0 (ok := fun _ => True) (okp := fun _ => True) rfl (fun _ hk => hk) trivial od_ (Nat.le_trans (Nat.mul_le_mul_right _ (od_ : a1.toNat ≤ 281474976710656)) (by omega)) (Below.refl _ _) (Nat.le_refl _) ?_; intro v132 w5 ho6 hb hg_ hnew_; clear hg_ hnew_; (first | rw [← Ny131.out] at ho6 | (simp only [Int.reduceToNat] at ho6; rw [← Ny131.out] at ho6)); have HO133 := a_ (Kd.R_lower ho6 (below_size (bl_ HB))); replace HB := hB_ (bl_ HB) hb; clear hb ho6; obtain ⟨Ao7, co7, eo7⟩ := Kd.R_slice HO133.out; subst eo7))
 go_loopg [11] k (fun kq v11 w' => ∃ (x5_1 : List Int) (x11_1 : Int), v11 = .int .i64 x11_1 ∧ Aside0 (pack_fixed.l0 kq a0 a1 x5_1 (y131.length : Int) x11_1 = some r) ∧ Aside0 (kq ≤ k) ∧ Aside0 (Kd.R (Kd.int .u8) 5 w' w.heap.size (fun _ => True) (.slice Ao7 y131.length co7) x5_1) ∧ Aside0 (Below w.heap.size w w'))
 case atStart => exact ⟨(y131), (0), fz_, H', ⟨Nat.le_refl _⟩, ⟨by refine rq_ ?_; exact HO133.out⟩, ⟨bl_ HB⟩⟩
 case round =>
  clear H'
  try clear p2
  try clear c3
  try clear c3b0
  try clear c3b1
  try clear c4
  try clear c4b0
  try clear c4b1
  obtain ⟨x5_1, x11_1, rfl, HA, HK1, HO_5, HB⟩ := hrel
  have hl5_1 := (Kd.R_reads' HO_5.out).1
  rw [hl5_1] at HO_5
  (try simp only [hl5_1])
  cases gk with
  | zero => exact absurd HA.out (by simp [pack_fixed.l0])
  | succ k1 =>
   have H := HA.out
   clear HA
   simp only [pack_fixed.l0] at H
   by_cases c8 : x11_1 < (y131.length : Int)
   rotate_left
   ·rw [if_neg c8] at H
    have c8b0 : decide (x11_1 < (y131.length : Int)) = false := decide_eq_false c8
    (try rw [hl5_1] at c8b0)
    clear c8
    obtain rfl := Option.some.inj H
    have hcv18 := own_string (P := Try.prog) Try.underlying111 Try.underlying5 Try.underlying9 (Kd.own_of_R HO_5.out)
    go_wp2
    go_ret
    exact ⟨fz_, bl_ HB⟩
   rw [if_pos c8] at H
   have c8b0 : decide (x11_1 < (y131.length : Int)) = true := decide_eq_true c8
   (try rw [hl5_1] at c8b0)
   clear c8
   obtain ⟨ji9, hji9⟩ : ∃ j_ : Int, (wrap64 (8 * x11_1)) = j_ := ⟨_, rfl⟩
   replace H : (if 0 ≤ (ji9) then (if 0 ≤ (wrap64 ((wrap64 (a1 - 1)) - x11_1)) then (if (wrap64 ((wrap64 (a1 - 1)) - x11_1)) < (x5_1.length : Int) then (pack_fixed.l0 k1 a0 a1 (x5_1.set ((wrap64 ((wrap64 (a1 - 1)) - x11_1)) : Int).toNat ((shr .u64 a0 (ji9)) % 256)) (y131.length : Int) (wrap64 (x11_1 + 1))) else (none)) else (none)) else (none)) = some r := by first | (rw [hji9] at H; exact H) | (simp only [hji9] at H ⊢; exact H)
   have hji9w : (IntKind.i64.wrap (8 * x11_1)) = ji9 := (i64_w _).trans hji9
   by_cases c10 : 0 ≤ (ji9)
   rotate_left
   ·rw [if_neg c10] at H
    exact absurd H (by simp)
   rw [if_pos c10] at H
   have c10b0 := eq_true c10
   have c10b1 : decide (0 ≤ (ji9)) = true := decide_eq_true c10
   clear c10
   obtain ⟨ji11, hji11⟩ : ∃ j_ : Int, (shr .u64 a0 (ji9)) = j_ := ⟨_, rfl⟩
   replace H : (if 0 ≤ (wrap64 ((wrap64 (a1 - 1)) - x11_1)) then (if (wrap64 ((wrap64 (a1 - 1)) - x11_1)) < (x5_1.length : Int) then (pack_fixed.l0 k1 a0 a1 (x5_1.set ((wrap64 ((wrap64 (a1 - 1)) - x11_1)) : Int).toNat ((ji11) % 256)) (y131.length : Int) (wrap64 (x11_1 + 1))) else (none)) else (none)) = some r := by first | (rw [hji11] at H; exact H) | (simp only [hji11] at H ⊢; exact H)
   have hji11_ : (a0 / 2 ^ min (ji9).toNat 64) = ji11 := hji11
   have hji11z : (ji9) ≤ 64 → (a0 / 2 ^ (ji9).toNat) = ji11 := shr_small hji11
   obtain ⟨ji12, hji12⟩ : ∃ j_ : Int, (wrap64 ((wrap64 (a1 - 1)) - x11_1)) = j_ := ⟨_, rfl⟩
   replace H : (if 0 ≤ (ji12) then (if (ji12) < (x5_1.length : Int) then (pack_fixed.l0 k1 a0 a1 (x5_1.set ((ji12) : Int).toNat ((ji11) % 256)) (y131.length : Int) (wrap64 (x11_1 + 1))) else (none)) else (none)) = some r := by first | (rw [hji12] at H; exact H) | (simp only [hji12] at H ⊢; exact H)
   have hji12w : (IntKind.i64.wrap ((wrap64 (a1 - 1)) - x11_1)) = ji12 := (i64_w _).trans hji12
   by_cases c13 : 0 ≤ (ji12)
   rotate_left
   ·rw [if_neg c13] at H
    exact absurd H (by simp)
   rw [if_pos c13] at H
   have c13b0 : decide (0 ≤ (ji12)) = true := decide_eq_true c13
   clear c13
   by_cases c14 : (ji12) < (x5_1.length : Int)
   rotate_left
   ·rw [if_neg c14] at H
    exact absurd H (by simp)
   rw [if_pos c14] at H
   have c14b0 : decide ((ji12) < (x5_1.length : Int)) = true := decide_eq_true c14
   (try rw [hl5_1] at c14b0)
   clear c14
   obtain ⟨y134, hy134⟩ : ∃ y_ : List Int, y_ = (x5_1.set ((ji12) : Int).toNat ((ji11) % 256)) := ⟨_, rfl⟩
   replace H : (pack_fixed.l0 k1 a0 a1 y134 (y131.length : Int) (wrap64 (x11_1 + 1))) = some r := by first | (rw [hy134]; with_reducible exact H) | (have H2_ := (Option.bind_some _ _).symm.trans H; rw [hy134]; with_reducible exact H2_) | (have H2_ := (Option.bind_some _ _).symm.trans H; with_reducible exact H2_) | with_reducible exact H | (rw [hy134]; exact H) | exact H
   have Ny134 := a_ hy134
   clear hy134
   have H' := a_ H
   clear H
   have p15 : 0 ≤ ((ji12) : Int) := od_
   have q15 : ((ji12) : Int) < ((x5_1.length : Int) : Int) := od_
   obtain ⟨go15, co15, eo15, gb15, gl15, cl15, HG15⟩ := Kd.R_form HO_5.out (by omega)
   (first | cases eo15 | (injection eo15 with ea_ en_ ec_; (first | subst ea_ | (injection ea_ with ea_; subst ea_)); subst ec_; clear en_))
   have GB15 := a_ gb15
   have GG15 := a_ HG15
   clear gb15 gl15 HG15
   obtain ⟨hx15_0, hf15_0⟩ := Kd.R_celln 0 HO_5.out ((ji12) : Int) p15 q15
   replace p15 := eq_true p15
   replace q15 := eq_true q15
   have HP16 := Kd.R_putg HO_5.out ((ji12) : Int) ((ji11) % 256)
   go_wp2_with (first | ((with_reducible refine gate_store (t := 5) (p := 24) rfl ?_); refine store_event (t := 5) (p := 24) (v := ?vo_w17) (w1 := (wr.setCell ⟨go15, ((ji12) : Int).toNat, none⟩ (.int .u8 ((ji11) % 256)))) ?hg ?ho ?hn ?hr ?_; (case ho => rfl); (case hg => rfl); (case hn => rfl); (case hr => first | (go_simp; done) | (go_simp; rfl)); intro w17 hw; have hg : wr.grownBy w17 (some go15) := (by rw [hw]; exact HP16.2); have hp_ : Kd.R (Kd.int .u8) 5 w17 w.heap.size (fun _ => True) (.slice (some ⟨go15, 0, none⟩) x5_1.length co7) y134 := (by rw [hw, Ny134.out]; exact HP16.1); clear HP16; replace HO_5 := a_ (hp_); replace HB := a_ ((by rw [hw]; exact below_set (HB.out) GB15.out : Below w.heap.size w w17)); clear hg hw hp_))
   (try simp only [← hl5_1])
   go_roundg k1
   case measure => have := HK1.out; omega
   case rel => exact ⟨(y134), (wrap64 (x11_1 + 1)), fz_, H', ⟨by have := HK1.out; omega⟩, ⟨by (try simp only [hl5_1]); refine rq_ ?_; exact HO_5.out⟩, ⟨bl_ HB⟩⟩
/-! ### pack_Sum: function 92 -/
mutual
def pack_Sum.l0 : Nat → ByteArray → Int → Int → Option (Int)
 | 0, _, _, _ => none
 | k + 1, x0, x3, x4 => if x4 = (x0.size : Int) then (some x3) else (if 0 ≤ x4 then (if x4 < (x0.size : Int) then (pack_Sum.l1 k x0 (Go.bits .xor .u16 x3 (IntKind.u16.wrap ((IntKind.u16.wrap (bt x0 x4)) * 256))) x4 0) else (none)) else (none))
def pack_Sum.l1 : Nat → ByteArray → Int → Int → Int → Option (Int)
 | 0, _, _, _, _ => none
 | k + 1, x0, x3, x4, x19 => if x19 < 8 then (pack_Sum.l1 k x0 (Go.bits .xor .u16 (IntKind.u16.wrap (x3 * 2)) (IntKind.u16.wrap (4129 * (x3 / 32768)))) x4 (wrap64 (x19 + 1))) else (pack_Sum.l0 k x0 x3 (wrap64 (x4 + 1)))
end
def pack_Sum.f (k : Nat) (a0 : ByteArray) : Option (Int) := pack_Sum.l0 k a0 65535 0
theorem pack_Sum.mono_l : ∀ k, (∀ y0 y1 y2, LeO (pack_Sum.l0 k y0 y1 y2) (pack_Sum.l0 (k + 1) y0 y1 y2)) ∧ (∀ y0 y1 y2 y3, LeO (pack_Sum.l1 k y0 y1 y2 y3) (pack_Sum.l1 (k + 1) y0 y1 y2 y3))
 | 0 => ⟨fun _ _ _ r h => by simp [pack_Sum.l0] at h, fun _ _ _ _ r h => by simp [pack_Sum.l1] at h⟩
 | k + 1 => by
  obtain ⟨ih0, ih1⟩ := pack_Sum.mono_l k
  refine ⟨?_, ?_⟩
  ·intro y0 y1 y2
   unfold pack_Sum.l0
   repeat' with_reducible first | apply ih0 | apply ih1 | apply LeO.refl | apply LeO.none | apply LeO.ite | refine LeO.bind ?_ (fun _ => ?_)
  ·intro y0 y1 y2 y3
   unfold pack_Sum.l1
   repeat' with_reducible first | apply ih0 | apply ih1 | apply LeO.refl | apply LeO.none | apply LeO.ite | refine LeO.bind ?_ (fun _ => ?_)
theorem pack_Sum.mono : ∀ a0 k, LeO (pack_Sum.f k a0) (pack_Sum.f (k + 1) a0) := by
 intro a0 k
 obtain ⟨ih0, ih1⟩ := pack_Sum.mono_l k
 unfold pack_Sum.f
 repeat' with_reducible first | apply ih0 | apply ih1 | apply LeO.refl | apply LeO.none | apply LeO.ite | refine LeO.bind ?_ (fun _ => ?_)
theorem pack_Sum.calls (k : Nat) (a0 : ByteArray) (r : Int) (w : World) (h : pack_Sum.f k a0 = some r) :
  Calls Try.prog 92 #[.string a0] w fun e w' => e = .returned (.int .u16 r) ∧ Drawn0 w w' := by
 have H : (pack_Sum.l0 k a0 65535 0) = some r := h
 clear h
 have H' := a_ H
 clear H
 go_enter Try.func92, Try.ntmps92
 go_wp2
 repeat (go_step3; try (go_wp2))
 go_loopg [3, 4] k (fun kq v3 v4 w' => ∃ (x3_1 : Int) (x4_1 : Int), v3 = .int .u16 x3_1 ∧ v4 = .int .i64 x4_1 ∧ Aside0 (pack_Sum.l0 kq a0 x3_1 x4_1 = some r) ∧ Aside0 (kq ≤ k) ∧ Drawn0 w w')
 case atStart => exact ⟨(65535), (0), fz_, fz_, H', ⟨Nat.le_refl _⟩, dr_⟩
 case round =>
  clear H'
  obtain ⟨x3_1, x4_1, rfl, rfl, HA, HK1, ⟨m1, rfl⟩⟩ := hrel
  cases gk with
  | zero => exact absurd HA.out (by simp [pack_Sum.l0])
  | succ k1 =>
   have H := HA.out
   clear HA
   simp only [pack_Sum.l0] at H
   by_cases c2 : x4_1 = (a0.size : Int)
   ·rw [if_pos c2] at H
    have c2b0 : (x4_1 == (a0.size : Int)) = true := beq_iff_eq.mpr c2
    have c2b1 : (x4_1 != (a0.size : Int)) = false := bne_eq_false_iff_eq.mpr c2
    clear c2
    obtain rfl := Option.some.inj H
    go_wp2
    repeat (go_step3; try (go_wp2))
    try dsimp only [Exit.noGoto]
    go_ret
    exact ⟨fz_, dr_⟩
   rw [if_neg c2] at H
   have c2b0 : (x4_1 == (a0.size : Int)) = false := beq_eq_false_iff_ne.mpr c2
   have c2b1 : (x4_1 != (a0.size : Int)) = true := bne_iff_ne.mpr c2
   by_cases c3 : 0 ≤ x4_1
   rotate_left
   ·rw [if_neg c3] at H
    exact absurd H (by simp)


   rw [if_pos c3] at H
   have c3b0 : decide (0 ≤ x4_1) = true := decide_eq_true c3
   clear c3
   by_cases c4 : x4_1 < (a0.size : Int)
   rotate_left
   ·rw [if_neg c4] at H
    exact absurd H (by simp)
   rw [if_pos c4] at H
   have c4b0 : decide (x4_1 < (a0.size : Int)) = true := decide_eq_true c4
   clear c4
   have H' := a_ H
   clear H
   have p5 : 0 ≤ (x4_1 : Int) := od_
   have q5 : x4_1 < (a0.size : Int) := od_
   have hx5 := bt_at a0 x4_1
   replace p5 := eq_true p5
   replace q5 := eq_true q5
   go_wp2
   repeat (go_step3; try (go_wp2))
   go_loopg [3, 19] k1 (fun kq v3 v19 w' => ∃ (x3_2 : Int) (x19_2 : Int), v3 = .int .u16 x3_2 ∧ v19 = .int .i64 x19_2 ∧ Aside0 (pack_Sum.l1 kq a0 x3_2 x4_1 x19_2 = some r) ∧ Aside0 (kq ≤ k1) ∧ Drawn0 w w')
   case atStart => exact ⟨(Go.bits .xor .u16 x3_1 (IntKind.u16.wrap ((IntKind.u16.wrap (bt a0 x4_1)) * 256))), (0), fz_, fz_, H', ⟨Nat.le_refl _⟩, dr_⟩
   case round =>
    clear H'
    try clear c2
    try clear c2b0
    try clear c2b1
    try clear p2
    try clear c3
    try clear c3b0
    try clear c4
    try clear c4b0
    try clear p5
    try clear q5
    try clear hx5
    try clear p5
    try clear q5
    obtain ⟨x3_2, x19_2, rfl, rfl, HA, HK2, ⟨m2, rfl⟩⟩ := hrel
    cases gk with
    | zero => exact absurd HA.out (by simp [pack_Sum.l1])
    | succ k2 =>
     have H := HA.out
     clear HA
     simp only [pack_Sum.l1] at H
     by_cases c6 : x19_2 < 8
     rotate_left
     ·rw [if_neg c6] at H
      have c6b0 : decide (x19_2 < 8) = false := decide_eq_false c6
      clear c6
      have H' := a_ H
      clear H
      go_wp2
      repeat (go_step3; try (go_wp2))
      go_roundg k2
      case measure => have := HK1.out; have := HK2.out; omega
      case rel => exact ⟨(x3_2), (wrap64 (x4_1 + 1)), fz_, fz_, H', ⟨by have := HK1.out; have := HK2.out; omega⟩, dr_⟩
     rw [if_pos c6] at H
     have c6b0 : decide (x19_2 < 8) = true := decide_eq_true c6
     clear c6
     have H' := a_ H
     clear H
     go_wp2
     repeat (go_step3; try (go_wp2))
     go_roundg k2
     case measure => have := HK1.out; have := HK2.out; omega
     case rel => exact ⟨(Go.bits .xor .u16 (IntKind.u16.wrap (x3_2 * 2)) (IntKind.u16.wrap (4129 * (x3_2 / 32768)))), (wrap64 (x19_2 + 1)), fz_, fz_, H', ⟨by have := HK1.out; have := HK2.out; omega⟩, dr_⟩
/-! ### pack_Frame: function 59 -/
def pack_Frame.f (k : Nat) (a0 : ByteArray) : Option (ByteArray × Int) := if (a0.size : Int) > 65536 then (some ((⟨#[]⟩ : ByteArray), 2)) else ((pack_fixed.f k (IntKind.u64.wrap ((a0.size : Int))) 4).bind fun t135 => (if t135.size + a0.size ≤ 9223372036854775807 then ((pack_Sum.f k (t135 ++ a0)).bind fun t136 => ((pack_fixed.f k (IntKind.u64.wrap (t136)) 2).bind fun t137 => (if t135.size + t137.size ≤ 9223372036854775807 then (if (t135 ++ t137).size + a0.size ≤ 9223372036854775807 then (some ((t135 ++ t137) ++ a0, 0)) else (none)) else (none)))) else (none)))
theorem pack_Frame.mono : ∀ a0 k, LeO (pack_Frame.f k a0) (pack_Frame.f (k + 1) a0) := by
 intro a0 k
 unfold pack_Frame.f
 repeat' with_reducible first | apply pack_Sum.mono | apply pack_fixed.mono | apply LeO.refl | apply LeO.none | apply LeO.ite | refine LeO.bind ?_ (fun _ => ?_)
theorem pack_Frame.calls (k : Nat) (a0 : ByteArray) (r1 : ByteArray) (r2 : Int) (w : World) (h : pack_Frame.f k a0 = some (r1, r2)) :
  Calls Try.prog 59 #[.string a0] w fun e w' => e = .returned (.tuple #[.string r1, .int .i64 r2]) ∧ Below w.heap.size w w' := by
 have HB := a_ (Below.refl w.heap.size w)
 have H : (if (a0.size : Int) > 65536 then (some ((⟨#[]⟩ : ByteArray), 2)) else ((pack_fixed.f k (IntKind.u64.wrap ((a0.size : Int))) 4).bind fun t135 => (if t135.size + a0.size ≤ 9223372036854775807 then ((pack_Sum.f k (t135 ++ a0)).bind fun t136 => ((pack_fixed.f k (IntKind.u64.wrap (t136)) 2).bind fun t137 => (if t135.size + t137.size ≤ 9223372036854775807 then (if (t135 ++ t137).size + a0.size ≤ 9223372036854775807 then (some ((t135 ++ t137) ++ a0, 0)) else (none)) else (none)))) else (none)))) = some (r1, r2) := h
 clear h
 by_cases c2 : (a0.size : Int) > 65536
 ·rw [if_pos c2] at H
  have c2b0 : decide (65536 < (a0.size : Int)) = true := decide_eq_true c2
  have c2b1 : decide (65536 < a0.size) = true := decide_eq_true (by omega)
  clear c2
  simp only [Option.some.injEq, Prod.mk.injEq] at H
  obtain ⟨rfl, rfl⟩ := H
  go_enter Try.func59, Try.ntmps59
  go_wp2
  go_ret2
  exact ⟨fz_, bl_ HB⟩
 rw [if_neg c2] at H
 have c2b0 : decide (65536 < (a0.size : Int)) = false := decide_eq_false c2
 have c2b1 : decide (65536 < a0.size) = false := decide_eq_false (by omega)
 clear c2
 obtain ⟨t135, A30, H⟩ := Option.bind_eq_some_iff.mp H
 try dsimp only at H
 have A3 := a_ A30
 clear A30
 by_cases c4 : t135.size + a0.size ≤ 9223372036854775807
 rotate_left
 ·rw [if_neg c4] at H
  exact absurd H (by simp)


 rw [if_pos c4] at H
 have c4b0 := eq_true c4
 have c4b1 : decide (t135.size + a0.size ≤ 9223372036854775807) = true := decide_eq_true c4
 try have c4b2 : (9223372036854775807 < t135.size + a0.size) = False := eq_false (Nat.not_lt.2 c4)
 clear c4
 obtain ⟨t136, A50, H⟩ := Option.bind_eq_some_iff.mp H
 try dsimp only at H
 have A5 := a_ A50
 clear A50
 obtain ⟨t137, A60, H⟩ := Option.bind_eq_some_iff.mp H
 try dsimp only at H
 have A6 := a_ A60
 clear A60
 by_cases c7 : t135.size + t137.size ≤ 9223372036854775807
 rotate_left
 ·rw [if_neg c7] at H
  exact absurd H (by simp)
 rw [if_pos c7] at H
 have c7b0 := eq_true c7
 have c7b1 : decide (t135.size + t137.size ≤ 9223372036854775807) = true := decide_eq_true c7
 try have c7b2 : (9223372036854775807 < t135.size + t137.size) = False := eq_false (Nat.not_lt.2 c7)
 clear c7
 by_cases c8 : (t135 ++ t137).size + a0.size ≤ 9223372036854775807
 rotate_left
 ·rw [if_neg c8] at H
  exact absurd H (by simp)
 rw [if_pos c8] at H
 have c8b0 := eq_true c8
 have c8b1 : decide ((t135 ++ t137).size + a0.size ≤ 9223372036854775807) = true := decide_eq_true c8
 try have c8b2 : (9223372036854775807 < (t135 ++ t137).size + a0.size) = False := eq_false (Nat.not_lt.2 c8)
 clear c8
 simp only [Option.some.injEq, Prod.mk.injEq] at H
 obtain ⟨rfl, rfl⟩ := H
 (try (have c8b0x := c8b0; simp only [ByteArray.size_extract, ByteArray.size_append, Nat.min_self, Nat.sub_zero] at c8b0x))
 (try (have c8b1x := c8b1; simp only [ByteArray.size_extract, ByteArray.size_append, Nat.min_self, Nat.sub_zero] at c8b1x))
 (try (have c8b2x := c8b2; simp only [ByteArray.size_extract, ByteArray.size_append, Nat.min_self, Nat.sub_zero] at c8b2x))
 go_enter Try.func59, Try.ntmps59
 go_wp2_with (first | ((with_reducible refine gk_ 91 ?_); refine gl_ (some 11) Try.func91 #[.int .u64 (IntKind.u64.wrap ((a0.size : Int))), .int .i64 4] ?_; (with_reducible refine (pack_fixed.calls k (IntKind.u64.wrap ((a0.size : Int))) 4 t135 _ A3.out).mono ?_); rintro e w9 ⟨rfl, hb⟩; refine ⟨_, rfl, ?_⟩; replace HB := hB_ (bl_ HB) hb; (try clear hb)) | ((with_reducible refine gk_ 92 ?_); refine gl_ (some 16) Try.func92 #[.string (t135 ++ a0)] ?_; (with_reducible refine (pack_Sum.calls k (t135 ++ a0) t136 _ A5.out).mono ?_); rintro e w' ⟨rfl, ⟨nd, rfl⟩⟩; refine ⟨_, rfl, ?_⟩) | ((with_reducible refine gk_ 91 ?_); refine gl_ (some 18) Try.func91 #[.int .u64 (IntKind.u64.wrap (t136)), .int .i64 2] ?_; (with_reducible refine (pack_fixed.calls k (IntKind.u64.wrap (t136)) 2 t137 _ A6.out).mono ?_); rintro e w10 ⟨rfl, hb⟩; refine ⟨_, rfl, ?_⟩; replace HB := hB_ (bl_ HB) hb; (try clear hb)))
 go_ret2
 exact ⟨fz_, bl_ HB⟩
/-! ### pack_value: function 61 -/
def pack_value.l0 : Nat → ByteArray → Int → Int → Int → Option (Int)
 | 0, _, _, _, _ => none
 | k + 1, x0, x3, x6, x7 => if x7 < x6 then (if 0 ≤ x7 then (if x7 < (x0.size : Int) then (pack_value.l0 k x0 (Go.bits .or .u64 (IntKind.u64.wrap (x3 * 256)) (IntKind.u64.wrap (bt x0 x7))) x6 (wrap64 (x7 + 1))) else (none)) else (none)) else (some x3)
def pack_value.f (k : Nat) (a0 : ByteArray) : Option (Int) := pack_value.l0 k a0 0 (a0.size : Int) 0
theorem pack_value.mono_l : ∀ k, (∀ y0 y1 y2 y3, LeO (pack_value.l0 k y0 y1 y2 y3) (pack_value.l0 (k + 1) y0 y1 y2 y3))
 | 0 => fun _ _ _ _ r h => by simp [pack_value.l0] at h
 | k + 1 => by
  have ih0 := pack_value.mono_l k
  ·intro y0 y1 y2 y3
   unfold pack_value.l0
   repeat' with_reducible first | apply ih0 | apply LeO.refl | apply LeO.none | apply LeO.ite | refine LeO.bind ?_ (fun _ => ?_)
theorem pack_value.mono : ∀ a0 k, LeO (pack_value.f k a0) (pack_value.f (k + 1) a0) := by
 intro a0 k
 have ih0 := pack_value.mono_l k
 unfold pack_value.f
 repeat' with_reducible first | apply ih0 | apply LeO.refl | apply LeO.none | apply LeO.ite | refine LeO.bind ?_ (fun _ => ?_)
theorem pack_value.calls (k : Nat) (a0 : ByteArray) (r : Int) (w : World) (h : pack_value.f k a0 = some r) :
  Calls Try.prog 61 #[.string a0] w fun e w' => e = .returned (.int .u64 r) ∧ Drawn0 w w' := by
 have H : (pack_value.l0 k a0 0 (a0.size : Int) 0) = some r := h
 clear h
 have H' := a_ H
 clear H
 go_enter Try.func61, Try.ntmps61
 go_wp2
 go_loopg [3, 7] k (fun kq v3 v7 w' => ∃ (x3_1 : Int) (x7_1 : Int), v3 = .int .u64 x3_1 ∧ v7 = .int .i64 x7_1 ∧ Aside0 (pack_value.l0 kq a0 x3_1 (a0.size : Int) x7_1 = some r) ∧ Aside0 (kq ≤ k) ∧ Drawn0 w w')
 case atStart => exact ⟨(0), (0), fz_, fz_, H', ⟨Nat.le_refl _⟩, dr_⟩
 case round =>
  clear H'
  obtain ⟨x3_1, x7_1, rfl, rfl, HA, HK1, ⟨m1, rfl⟩⟩ := hrel
  cases gk with
  | zero => exact absurd HA.out (by simp [pack_value.l0])
  | succ k1 =>
   have H := HA.out
   clear HA
   simp only [pack_value.l0] at H
   by_cases c2 : x7_1 < (a0.size : Int)
   rotate_left
   ·rw [if_neg c2] at H
    have c2b0 : decide (x7_1 < (a0.size : Int)) = false := decide_eq_false c2
    clear c2
    obtain rfl := Option.some.inj H
    go_wp2
    go_ret
    exact ⟨fz_, dr_⟩


   rw [if_pos c2] at H
   have c2b0 : decide (x7_1 < (a0.size : Int)) = true := decide_eq_true c2
   clear c2
   by_cases c3 : 0 ≤ x7_1
   rotate_left
   ·rw [if_neg c3] at H
    exact absurd H (by simp)
   rw [if_pos c3] at H
   have c3b0 : decide (0 ≤ x7_1) = true := decide_eq_true c3
   clear c3
   by_cases c4 : x7_1 < (a0.size : Int)
   rotate_left
   ·rw [if_neg c4] at H
    exact absurd H (by simp)
   rw [if_pos c4] at H
   have c4b0 : decide (x7_1 < (a0.size : Int)) = true := decide_eq_true c4
   clear c4
   have H' := a_ H
   clear H
   have p5 : 0 ≤ (x7_1 : Int) := od_
   have q5 : x7_1 < (a0.size : Int) := od_
   have hx5 := bt_at a0 x7_1
   replace p5 := eq_true p5
   replace q5 := eq_true q5
   go_wp2
   go_roundg k1
   case measure => have := HK1.out; omega
   case rel => exact ⟨(Go.bits .or .u64 (IntKind.u64.wrap (x3_1 * 256)) (IntKind.u64.wrap (bt a0 x7_1))), (wrap64 (x7_1 + 1)), fz_, fz_, H', ⟨by have := HK1.out; omega⟩, dr_⟩
/-! ### pack_TakeFrame: function 38 -/
def pack_TakeFrame.j0 : Nat → ByteArray → Int → Bool → Option (ByteArray × ByteArray × Int)
 | 0, _, _, _ => none
 | k + 1, x0, x5, x18 => if x18 = true then (some ((⟨#[]⟩ : ByteArray), (⟨#[]⟩ : ByteArray), 3)) else (if 6 ≤ (wrap64 (6 + (wrap64 (x5)))) then (if (wrap64 (6 + (wrap64 (x5)))) ≤ (x0.size : Int) then ((pack_Frame.f k (x0.extract 6 ((wrap64 (6 + (wrap64 (x5)))) : Int).toNat)).bind fun bt139 => (if 0 ≤ (wrap64 (6 + (wrap64 (x5)))) then (if bt139.1.toList = (x0.extract 0 ((wrap64 (6 + (wrap64 (x5)))) : Int).toNat).toList then (some (x0.extract 6 ((wrap64 (6 + (wrap64 (x5)))) : Int).toNat, x0.extract ((wrap64 (6 + (wrap64 (x5)))) : Int).toNat x0.size, 0)) else (some ((⟨#[]⟩ : ByteArray), (⟨#[]⟩ : ByteArray), 4))) else (none))) else (none)) else (none))
def pack_TakeFrame.f (k : Nat) (a0 : ByteArray) : Option (ByteArray × ByteArray × Int) := if (a0.size : Int) < 4 then (some ((⟨#[]⟩ : ByteArray), (⟨#[]⟩ : ByteArray), 3)) else (if 0 ≤ 4 then (if 4 ≤ (a0.size : Int) then ((pack_value.f k (a0.extract 0 4)).bind fun t138 => (if t138 > 65536 then (some ((⟨#[]⟩ : ByteArray), (⟨#[]⟩ : ByteArray), 2)) else (if (a0.size : Int) < 6 then (pack_TakeFrame.j0 k a0 t138 true) else (pack_TakeFrame.j0 k a0 t138 (decide (t138 > (IntKind.u64.wrap (wrap64 ((a0.size : Int) - 6))))))))) else (none)) else (none))
theorem pack_TakeFrame.mono_l : ∀ k, (∀ y0 y1 y2, LeO (pack_TakeFrame.j0 k y0 y1 y2) (pack_TakeFrame.j0 (k + 1) y0 y1 y2))
 | 0 => fun _ _ _ r h => by simp [pack_TakeFrame.j0] at h
 | k + 1 => by
  have ih0 := pack_TakeFrame.mono_l k
  ·intro y0 y1 y2
   unfold pack_TakeFrame.j0
   repeat' with_reducible first | apply ih0 | apply pack_Frame.mono | apply pack_value.mono | apply LeO.refl | apply LeO.none | apply LeO.ite | refine LeO.bind ?_ (fun _ => ?_)
theorem pack_TakeFrame.mono : ∀ a0 k, LeO (pack_TakeFrame.f k a0) (pack_TakeFrame.f (k + 1) a0) := by
 intro a0 k
 have ih0 := pack_TakeFrame.mono_l k
 unfold pack_TakeFrame.f
 repeat' with_reducible first | apply ih0 | apply pack_Frame.mono | apply pack_value.mono | apply LeO.refl | apply LeO.none | apply LeO.ite | refine LeO.bind ?_ (fun _ => ?_)
theorem pack_TakeFrame.calls (k : Nat) (a0 : ByteArray) (r1 : ByteArray) (r2 : ByteArray) (r3 : Int) (w : World) (h : pack_TakeFrame.f k a0 = some (r1, r2, r3)) :
  Calls Try.prog 38 #[.string a0] w fun e w' => e = .returned (.tuple #[.string r1, .string r2, .int .i64 r3]) ∧ Below w.heap.size w w' := by
 have HB := a_ (Below.refl w.heap.size w)
 have H : (if (a0.size : Int) < 4 then (some ((⟨#[]⟩ : ByteArray), (⟨#[]⟩ : ByteArray), 3)) else (if 0 ≤ 4 then (if 4 ≤ (a0.size : Int) then ((pack_value.f k (a0.extract 0 4)).bind fun t138 => (if t138 > 65536 then (some ((⟨#[]⟩ : ByteArray), (⟨#[]⟩ : ByteArray), 2)) else (if (a0.size : Int) < 6 then (pack_TakeFrame.j0 k a0 t138 true) else (pack_TakeFrame.j0 k a0 t138 (decide (t138 > (IntKind.u64.wrap (wrap64 ((a0.size : Int) - 6))))))))) else (none)) else (none))) = some (r1, r2, r3) := h
 clear h
 by_cases c2 : (a0.size : Int) < 4
 ·rw [if_pos c2] at H
  have c2b0 : decide ((a0.size : Int) < 4) = true := decide_eq_true c2
  have c2b1 : decide (a0.size < 4) = true := decide_eq_true (by omega)
  clear c2
  simp only [Option.some.injEq, Prod.mk.injEq] at H
  obtain ⟨rfl, rfl, rfl⟩ := H
  go_enter Try.func38, Try.ntmps38
  go_wp2
  repeat (go_quiet (fail); try go_wp2)
  go_ret3
  exact ⟨fz_, bl_ HB⟩
 rw [if_neg c2] at H
 have c2b0 : decide ((a0.size : Int) < 4) = false := decide_eq_false c2
 have c2b1 : decide (a0.size < 4) = false := decide_eq_false (by omega)
 clear c2
 by_cases c3 : 0 ≤ 4
 rotate_left
 ·rw [if_neg c3] at H
  exact absurd H (by simp)


 rw [if_pos c3] at H
 have c3b0 := eq_true c3
 have c3b1 : decide (0 ≤ 4) = true := decide_eq_true c3
 clear c3
 by_cases c4 : 4 ≤ (a0.size : Int)
 rotate_left
 ·rw [if_neg c4] at H
  exact absurd H (by simp)
 rw [if_pos c4] at H
 have c4b0 := eq_true c4
 have c4b1 : decide (4 ≤ (a0.size : Int)) = true := decide_eq_true c4
 clear c4
 obtain ⟨t138, A50, H⟩ := Option.bind_eq_some_iff.mp H
 try dsimp only at H
 have A5 := a_ A50
 clear A50
 by_cases c6 : t138 > 65536
 ·rw [if_pos c6] at H
  have c6b0 : decide (65536 < t138) = true := decide_eq_true c6
  clear c6
  simp only [Option.some.injEq, Prod.mk.injEq] at H
  obtain ⟨rfl, rfl, rfl⟩ := H
  go_enter Try.func38, Try.ntmps38
  go_wp2_with (first | (go_at_call 61; (with_reducible refine (pack_value.calls k (a0.extract 0 4) t138 _ A5.out).mono ?_); rintro e w' ⟨rfl, ⟨nd, rfl⟩⟩; (try first | exact ⟨rfl, _, World.drewN_drewN _ _ _⟩ | exact ⟨rfl, _, Eq.trans (World.drewN_drewN _ _ _) (congrArg (World.drewN _) (Nat.add_assoc _ _ _))⟩)) | go_quiet (first | (go_at_call 61; (with_reducible refine (pack_value.calls k (a0.extract 0 4) t138 _ A5.out).mono ?_); rintro e w' ⟨rfl, ⟨nd, rfl⟩⟩; (try first | exact ⟨rfl, _, World.drewN_drewN _ _ _⟩ | exact ⟨rfl, _, Eq.trans (World.drewN_drewN _ _ _) (congrArg (World.drewN _) (Nat.add_assoc _ _ _))⟩))))
  go_ret3
  exact ⟨fz_, bl_ HB⟩
 rw [if_neg c6] at H
 have c6b0 : decide (65536 < t138) = false := decide_eq_false c6
 clear c6
 have HC7 := a_ H
 clear H
 go_enter Try.func38, Try.ntmps38
 go_upto_region 6 with (first | (go_at_call 61; (with_reducible refine (pack_value.calls k (a0.extract 0 4) t138 _ A5.out).mono ?_); rintro e w' ⟨rfl, ⟨nd, rfl⟩⟩; (try first | exact ⟨rfl, _, World.drewN_drewN _ _ _⟩ | exact ⟨rfl, _, Eq.trans (World.drewN_drewN _ _ _) (congrArg (World.drewN _) (Nat.add_assoc _ _ _))⟩)))
 repeat (go_quiet (first | (go_at_call 61; (with_reducible refine (pack_value.calls k (a0.extract 0 4) t138 _ A5.out).mono ?_); rintro e w' ⟨rfl, ⟨nd, rfl⟩⟩; (try first | exact ⟨rfl, _, World.drewN_drewN _ _ _⟩ | exact ⟨rfl, _, Eq.trans (World.drewN_drewN _ _ _) (congrArg (World.drewN _) (Nat.add_assoc _ _ _))⟩))); go_upto_region 6 with (first | (go_at_call 61; (with_reducible refine (pack_value.calls k (a0.extract 0 4) t138 _ A5.out).mono ?_); rintro e w' ⟨rfl, ⟨nd, rfl⟩⟩; (try first | exact ⟨rfl, _, World.drewN_drewN _ _ _⟩ | exact ⟨rfl, _, Eq.trans (World.drewN_drewN _ _ _) (congrArg (World.drewN _) (Nat.add_assoc _ _ _))⟩))))
 (try simp only [Act.put, List.setIfInBounds_toArray, List.set_cons_zero, List.set_cons_succ])
 go_cut [18] (fun v18 wc => ∃ (kq : Nat) (x18_6 : Bool), v18 = .bool x18_6 ∧ Aside0 (pack_TakeFrame.j0 kq a0 t138 x18_6 = some (r1, r2, r3)) ∧ Aside0 (kq ≤ k) ∧ Aside0 (Below w.heap.size w wc))
 case first =>
  have H := HC7.out
  clear HC7
  by_cases c8 : (a0.size : Int) < 6
  ·rw [if_pos c8] at H
   have c8b0 : decide ((a0.size : Int) < 6) = true := decide_eq_true c8
   have c8b1 : decide (a0.size < 6) = true := decide_eq_true (by omega)
   clear c8
   (first | rw [c8b0] | (simp only [i64_w, i32_w]; rw [c8b0]) | skip)
   have H' := a_ H
   clear H
   go_wp2
   repeat (go_quiet (fail); try go_wp2)
   go_meet
   case rel => exact ⟨_, (true), fz_, H', ⟨by first | omega | exact Nat.le_refl _⟩, ⟨bl_ HB⟩⟩
  rw [if_neg c8] at H
  have c8b0 : decide ((a0.size : Int) < 6) = false := decide_eq_false c8
  have c8b1 : decide (a0.size < 6) = false := decide_eq_false (by omega)
  clear c8
  (first | rw [c8b0] | (simp only [i64_w, i32_w]; rw [c8b0]) | skip)
  have H' := a_ H
  clear H
  go_wp2
  repeat (go_quiet (fail); try go_wp2)
  go_meet
  case rel => exact ⟨_, (decide (t138 > (IntKind.u64.wrap (wrap64 ((a0.size : Int) - 6))))), fz_, H', ⟨by first | omega | exact Nat.le_refl _⟩, ⟨bl_ HB⟩⟩
 case rest =>
  clear HC7
  try clear c2
  try clear c2b0
  try clear c2b1
  try clear p2
  try clear c3
  try clear c3b0
  try clear c3b1
  try clear c4
  try clear c4b0
  try clear c4b1
  try clear c6
  try clear c6b0
  try clear p6
  try clear c8
  try clear c8b0
  try clear c8b1
  obtain ⟨kq, x18_6, rfl, HA, HJ6, HB⟩ := hcut
  cases kq with
  | zero => exact absurd HA.out (by simp [pack_TakeFrame.j0])
  | succ kj6 =>
   have H := HA.out
   clear HA
   simp only [pack_TakeFrame.j0] at H
   by_cases c9 : x18_6 = true
   ·subst c9
    have H1 : (some ((⟨#[]⟩ : ByteArray), (⟨#[]⟩ : ByteArray), 3)) = some (r1, r2, r3) := by rw [if_pos rfl] at H; exact H
    clear H
    have H := H1
    clear H1
    simp only [Option.some.injEq, Prod.mk.injEq] at H
    obtain ⟨rfl, rfl, rfl⟩ := H
    go_wp2
    repeat (go_quiet (fail); try go_wp2)
    go_ret3
    exact ⟨fz_, bl_ HB⟩
   replace c9 := Bool.eq_false_iff.mpr c9
   subst c9
   have H1 : (if 6 ≤ (wrap64 (6 + (wrap64 (t138)))) then (if (wrap64 (6 + (wrap64 (t138)))) ≤ (a0.size : Int) then ((pack_Frame.f kj6 (a0.extract 6 ((wrap64 (6 + (wrap64 (t138)))) : Int).toNat)).bind fun bt139 => (if 0 ≤ (wrap64 (6 + (wrap64 (t138)))) then (if bt139.1.toList = (a0.extract 0 ((wrap64 (6 + (wrap64 (t138)))) : Int).toNat).toList then (some (a0.extract 6 ((wrap64 (6 + (wrap64 (t138)))) : Int).toNat, a0.extract ((wrap64 (6 + (wrap64 (t138)))) : Int).toNat a0.size, 0)) else (some ((⟨#[]⟩ : ByteArray), (⟨#[]⟩ : ByteArray), 4))) else (none))) else (none)) else (none)) = some (r1, r2, r3) := by rw [if_neg (show ¬ (false = true) by decide)] at H; exact H
   clear H
   have H := H1
   clear H1
   by_cases c10 : 6 ≤ (wrap64 (6 + (wrap64 (t138))))
   rotate_left
   ·rw [if_neg c10] at H
    exact absurd H (by simp)
   rw [if_pos c10] at H
   have c10b0 := eq_true c10
   have c10b1 : decide (6 ≤ (wrap64 (6 + (wrap64 (t138))))) = true := decide_eq_true c10
   clear c10
   by_cases c11 : (wrap64 (6 + (wrap64 (t138)))) ≤ (a0.size : Int)
   rotate_left
   ·rw [if_neg c11] at H
    exact absurd H (by simp)
   rw [if_pos c11] at H
   have c11b0 := eq_true c11
   have c11b1 : decide ((wrap64 (6 + (wrap64 (t138)))) ≤ (a0.size : Int)) = true := decide_eq_true c11
   clear c11
   obtain ⟨⟨t139, t140⟩, A120, H⟩ := Option.bind_eq_some_iff.mp H
   try dsimp only at H
   have A12 := a_ A120
   clear A120
   obtain ⟨ji13, hji13⟩ : ∃ j_ : Int, (wrap64 (6 + (wrap64 (t138)))) = j_ := ⟨_, rfl⟩
   replace H : (if 0 ≤ (ji13) then (if t139.toList = (a0.extract 0 ((ji13) : Int).toNat).toList then (some (a0.extract 6 ((ji13) : Int).toNat, a0.extract ((ji13) : Int).toNat a0.size, 0)) else (some ((⟨#[]⟩ : ByteArray), (⟨#[]⟩ : ByteArray), 4))) else (none)) = some (r1, r2, r3) := by first | (rw [hji13] at H; exact H) | (simp only [hji13] at H ⊢; exact H)
   (try rw [hji13] at c10b0)
   (try rw [hji13] at c10b1)
   (try rw [hji13] at c11b0)
   (try rw [hji13] at c11b1)
   (try rw [hji13] at A12)
   have hji13w : (IntKind.i64.wrap (6 + (wrap64 (t138)))) = ji13 := (i64_w _).trans hji13
   by_cases c14 : 0 ≤ (ji13)
   rotate_left
   ·rw [if_neg c14] at H
    exact absurd H (by simp)
   rw [if_pos c14] at H
   have c14b0 := eq_true c14
   have c14b1 : decide (0 ≤ (ji13)) = true := decide_eq_true c14
   clear c14
   have c15b0 := eq_true (od_ : (ji13) ≤ (a0.size : Int))
   by_cases c16 : t139.toList = (a0.extract 0 ((ji13) : Int).toNat).toList
   rotate_left
   ·rw [if_neg c16] at H
    have c16b0 : (t139.toList == (a0.extract 0 ((ji13) : Int).toNat).toList) = false := beq_eq_false_iff_ne.mpr c16
    have c16b1 : (t139.toList != (a0.extract 0 ((ji13) : Int).toNat).toList) = true := bne_iff_ne.mpr c16
    simp only [Option.some.injEq, Prod.mk.injEq] at H
    obtain ⟨rfl, rfl, rfl⟩ := H
    go_wp2_with (first | (go_at_call 59; (with_reducible refine (pack_Frame.calls kj6 (a0.extract 6 ((ji13) : Int).toNat) t139 t140 _ A12.out).mono ?_); rintro e w22 ⟨rfl, hb⟩; replace HB := hB_ (bl_ HB) hb; (try clear hb)) | go_quiet (first | (go_at_call 59; (with_reducible refine (pack_Frame.calls kj6 (a0.extract 6 ((ji13) : Int).toNat) t139 t140 _ A12.out).mono ?_); rintro e w22 ⟨rfl, hb⟩; replace HB := hB_ (bl_ HB) hb; (try clear hb))))
    go_ret3
    exact ⟨by first | rfl | (simp [errW_none, errW_some] <;> rfl) | (simp only [← hji13]; first | rfl | (simp [errW_none, errW_some] <;> rfl)) | (simp [*, errW_none, errW_some] <;> rfl), bl_ HB⟩
   rw [if_pos c16] at H
   have c16b0 : (t139.toList == (a0.extract 0 ((ji13) : Int).toNat).toList) = true := beq_iff_eq.mpr c16
   have c16b1 : (t139.toList != (a0.extract 0 ((ji13) : Int).toNat).toList) = false := bne_eq_false_iff_eq.mpr c16
   clear c16
   have c17b0 := eq_true (od_ : 6 ≤ (ji13))
   have c18b0 := eq_true (od_ : (ji13) ≤ (a0.size : Int))
   have c19b0 := eq_true (od_ : 0 ≤ (ji13))
   have c20b0 := eq_true (od_ : (ji13) ≤ (a0.size : Int))
   simp only [Option.some.injEq, Prod.mk.injEq] at H
   obtain ⟨rfl, rfl, rfl⟩ := H
   go_wp2_with (first | (go_at_call 59; (with_reducible refine (pack_Frame.calls kj6 (a0.extract 6 ((ji13) : Int).toNat) t139 t140 _ A12.out).mono ?_); rintro e w21 ⟨rfl, hb⟩; replace HB := hB_ (bl_ HB) hb; (try clear hb)) | go_quiet (first | (go_at_call 59; (with_reducible refine (pack_Frame.calls kj6 (a0.extract 6 ((ji13) : Int).toNat) t139 t140 _ A12.out).mono ?_); rintro e w21 ⟨rfl, hb⟩; replace HB := hB_ (bl_ HB) hb; (try clear hb))))
   go_ret3
   exact ⟨by first | rfl | (simp [errW_none, errW_some] <;> rfl) | (simp only [← hji13]; first | rfl | (simp [errW_none, errW_some] <;> rfl)) | (simp [*, errW_none, errW_some] <;> rfl), bl_ HB⟩end Go.Proofs.Ytpigjmjbfpipnaa.PD
