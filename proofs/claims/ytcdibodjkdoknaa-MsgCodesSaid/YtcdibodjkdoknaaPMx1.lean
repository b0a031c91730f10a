-- By a program of this session.
import Derived.Test.YtcdibodjkdoknaaPMx0
namespace Go.Proofs.Ytcdibodjkdoknaa.PM
open Go.RowKit YtcdibodjkdoknaaW.PrintWords YtcdibodjkdoknaaW.PrintLast YtcdibodjkdoknaaW.PrintMore Sh Ytcdibodjkdoknaa.Op
attribute [local go_sem] max2_int min2_int max_two min_two max_three min_three max_four min_four
set_option linter.unusedVariables false
set_option maxHeartbeats 80000000
set_option maxRecDepth 100000
set_option linter.unusedSimpArgs false

def pack_fixed.l0 : Nat → Int → Int → List Int → Int → Int → Option (ByteArray)
 | 0, _, _, _, _, _ => none
 | k + 1, x0, x1, x5, x10, x11 => if x11 < x10 then (if 0 ≤ (wrap64 (8 * x11)) then (if 0 ≤ (wrap64 ((wrap64 (x1 - 1)) - x11)) then (if (wrap64 ((wrap64 (x1 - 1)) - x11)) < (x5.length : Int) then (pack_fixed.l0 k x0 x1 (x5.set ((wrap64 ((wrap64 (x1 - 1)) - x11)) : Int).toNat ((shr .u64 x0 (wrap64 (8 * x11))) % 256)) x10 (wrap64 (x11 + 1))) else (none)) else (none)) else (none)) else (some (strOfNums x5))
def pack_fixed.f (k : Nat) (a0 : Int) (a1 : Int) : Option (ByteArray) := if 0 ≤ a1 then (if (a1 : Int).toNat ≤ 281474976710656 then ((some (List.replicate (a1 : Int).toNat 0 : List Int)).bind fun y101 => (pack_fixed.l0 k a0 a1 y101 (y101.length : Int) 0)) else (none)) else (none)
theorem pack_fixed.mono_l : ∀ k, (∀ y0 y1 y2 y3 y4, LeO (pack_fixed.l0 k y0 y1 y2 y3 y4) (pack_fixed.l0 (k + 1) y0 y1 y2 y3 y4))
 | 0 => fun _ _ _ _ _ r h => by simp [pack_fixed.l0] at h
 | k + 1 => by
  have ih0 := pack_fixed.mono_l k
  ·intro y0 y1 y2 y3 y4
   unfold pack_fixed.l0
   repeat' with_reducible first | apply ih0 | apply LeO.refl | apply LeO.none | apply LeO.ite | refine LeO.bind ?_ (fun _ => ?_)
theorem pack_fixed.mono : ∀ a0 a1 k, LeO (pack_fixed.f k a0 a1) (pack_fixed.f (k + 1) a0 a1) := by
 intro a0 a1 k
 have ih0 := pack_fixed.mono_l k
 unfold pack_fixed.f
 repeat' with_reducible first | apply ih0 | apply LeO.refl | apply LeO.none | apply LeO.ite | refine LeO.bind ?_ (fun _ => ?_)
theorem pack_fixed.calls (k : Nat) (a0 : Int) (a1 : Int) (r : ByteArray) (w : World) (h : pack_fixed.f k a0 a1 = some r) :
  Calls Try.prog 21 #[.int .u64 a0, .int .i64 a1] w fun e w' => e = .returned (.string r) ∧ Below w.heap.size w w' := by
 have HB := a_ (Below.refl w.heap.size w)
 have H := h
 unfold pack_fixed.f at H
 clear h
 by_cases c_1 : 0 ≤ a1
 rotate_left
 ·rw [if_neg c_1] at H
  exact absurd H (by simp)
 rw [if_pos c_1] at H
 have c_2 := eq_true c_1
 have c_3 : decide (0 ≤ a1) = true := decide_eq_true c_1
 clear c_1
 by_cases c_4 : (a1 : Int).toNat ≤ 281474976710656
 rotate_left
 ·rw [if_neg c_4] at H
  exact absurd H (by simp)
 rw [if_pos c_4] at H
 have c_5 := eq_true c_4
 have c_6 : decide ((a1 : Int).toNat ≤ 281474976710656) = true := decide_eq_true c_4
 clear c_4
 obtain ⟨y_1, hy_1⟩ : ∃ y_ : List Int, y_ = (List.replicate (a1 : Int).toNat 0) := ⟨_, rfl⟩
 replace H : (pack_fixed.l0 k a0 a1 y_1 (y_1.length : Int) 0) = some r := by first | (rw [hy_1]; with_reducible exact H) | (have H_1 := (Option.bind_some _ _).symm.trans H; rw [hy_1]; with_reducible exact H_1) | (have H_1 := (Option.bind_some _ _).symm.trans H; with_reducible exact H_1) | with_reducible exact H | (rw [hy_1]; exact H) | exact H
 have Ny_1 := a_ hy_1
 clear hy_1
 have H' := a_ H
 clear H
 go_enter Try.func21, Try.ntmps21
 go_wp2_with (first | ((with_reducible refine gd_ 8 ?_); refine Kd.R_make (Kd.int .u8) _ 5 rfl (N := 8) rfl 26 _ _ rfl a1 rfl rfl Try.underlying26 (.int .u8 0) 1 info5 rfl (by decide) (by omega) 0 (ok := fun _ => True) (okp := fun _ => True) rfl (fun _ hk => hk) trivial od_ (Nat.le_trans (Nat.mul_le_mul_right _ (od_ : a1.toNat ≤ 281474976710656)) (by omega)) (Below.refl _ _) (Nat.le_refl _) ?_; intro v_1 w_1 ho_1 hb hg_ hnew_; clear hg_ hnew_; (first | rw [← Ny_1.out] at ho_1 | (simp only [Int.reduceToNat] at ho_1; rw [← Ny_1.out] at ho_1)); have HO_1 := a_ (Kd.R_lower ho_1 (below_size (bl_ HB))); replace HB := hB_ (bl_ HB) hb; clear hb ho_1; obtain ⟨Ao_1, co_1, eo_1⟩ := Kd.R_slice HO_1.out; subst eo_1))
 go_loopg [11] k (fun kq v11 w' => ∃ (x5_1 : List Int) (x11_1 : Int), v11 = .int .i64 x11_1 ∧ Aside0 (pack_fixed.l0 kq a0 a1 x5_1 (y_1.length : Int) x11_1 = some r) ∧ Aside0 (kq ≤ k) ∧ Aside0 (Kd.R (Kd.int .u8) 5 w' w.heap.size (fun _ => True) (.slice Ao_1 y_1.length co_1) x5_1) ∧ Aside0 (Below w.heap.size w w'))
 case atStart => exact ⟨(y_1), (0), fz_, H', ⟨Nat.le_refl _⟩, ⟨by refine rq_ ?_; exact HO_1.out⟩, ⟨bl_ HB⟩⟩
 case round =>
  clear H'
  try clear c2
  try clear p2
  try clear c_1
  try clear c_2
  try clear c_3
  try clear c_4
  try clear c_5
  try clear c_6
  obtain ⟨x_1, x_2, rfl, HA, HK_1, HO_2, HB⟩ := hrel
  have hl_1 := (Kd.R_reads' HO_2.out).1
  rw [hl_1] at HO_2
  (try simp only [hl_1])
  cases gk with
  | zero => exact absurd HA.out (by simp [pack_fixed.l0])
  | succ k1 =>
   have H := HA.out
   clear HA
   simp only [pack_fixed.l0] at H
   by_cases c_7 : x_2 < (y_1.length : Int)
   rotate_left
   ·rw [if_neg c_7] at H
    have c_8 : decide (x_2 < (y_1.length : Int)) = false := decide_eq_false c_7
    (try rw [hl_1] at c_8)
    clear c_7
    obtain rfl := Option.some.inj H
    have hcv_1 := own_string (P := Try.prog) Try.underlying26 Try.underlying5 Try.underlying9 (Kd.own_of_R HO_2.out)
    go_wp2
    go_ret
    exact ⟨fz_, bl_ HB⟩
   rw [if_pos c_7] at H
   have c_8 : decide (x_2 < (y_1.length : Int)) = true := decide_eq_true c_7
   (try rw [hl_1] at c_8)
   clear c_7
   obtain ⟨ji_1, hji_1⟩ : ∃ j_ : Int, (wrap64 (8 * x_2)) = j_ := ⟨_, rfl⟩
   replace H : (if 0 ≤ (ji_1) then (if 0 ≤ (wrap64 ((wrap64 (a1 - 1)) - x_2)) then (if (wrap64 ((wrap64 (a1 - 1)) - x_2)) < (x_1.length : Int) then (pack_fixed.l0 k1 a0 a1 (x_1.set ((wrap64 ((wrap64 (a1 - 1)) - x_2)) : Int).toNat ((shr .u64 a0 (ji_1)) % 256)) (y_1.length : Int) (wrap64 (x_2 + 1))) else (none)) else (none)) else (none)) = some r := by first | (rw [hji_1] at H; exact H) | (simp only [hji_1] at H ⊢; exact H)
   have hji_2 : (IntKind.i64.wrap (8 * x_2)) = ji_1 := (i64_w _).trans hji_1
   by_cases c_9 : 0 ≤ (ji_1)
   rotate_left
   ·rw [if_neg c_9] at H
    exact absurd H (by simp)
   rw [if_pos c_9] at H
   have c_10 := eq_true c_9
   have c_11 : decide (0 ≤ (ji_1)) = true := decide_eq_true c_9
   clear c_9
   obtain ⟨ji_2, hji_3⟩ : ∃ j_ : Int, (shr .u64 a0 (ji_1)) = j_ := ⟨_, rfl⟩
   replace H : (if 0 ≤ (wrap64 ((wrap64 (a1 - 1)) - x_2)) then (if (wrap64 ((wrap64 (a1 - 1)) - x_2)) < (x_1.length : Int) then (pack_fixed.l0 k1 a0 a1 (x_1.set ((wrap64 ((wrap64 (a1 - 1)) - x_2)) : Int).toNat ((ji_2) % 256)) (y_1.length : Int) (wrap64 (x_2 + 1))) else (none)) else (none)) = some r := by first | (rw [hji_3] at H; exact H) | (simp only [hji_3] at H ⊢; exact H)
   have hji_4 : (a0 / 2 ^ min (ji_1).toNat 64) = ji_2 := hji_3
   have hji_5 : (ji_1) ≤ 64 → (a0 / 2 ^ (ji_1).toNat) = ji_2 := shr_small hji_3
   obtain ⟨ji_3, hji_6⟩ : ∃ j_ : Int, (wrap64 ((wrap64 (a1 - 1)) - x_2)) = j_ := ⟨_, rfl⟩
   replace H : (if 0 ≤ (ji_3) then (if (ji_3) < (x_1.length : Int) then (pack_fixed.l0 k1 a0 a1 (x_1.set ((ji_3) : Int).toNat ((ji_2) % 256)) (y_1.length : Int) (wrap64 (x_2 + 1))) else (none)) else (none)) = some r := by first | (rw [hji_6] at H; exact H) | (simp only [hji_6] at H ⊢; exact H)
   have hji_7 : (IntKind.i64.wrap ((wrap64 (a1 - 1)) - x_2)) = ji_3 := (i64_w _).trans hji_6
   by_cases c_12 : 0 ≤ (ji_3)
   rotate_left
   ·rw [if_neg c_12] at H
    exact absurd H (by simp)
   rw [if_pos c_12] at H
   have c_13 : decide (0 ≤ (ji_3)) = true := decide_eq_true c_12
   clear c_12
   by_cases c_14 : (ji_3) < (x_1.length : Int)
   rotate_left
   ·rw [if_neg c_14] at H
    exact absurd H (by simp)
   rw [if_pos c_14] at H
   have c_15 : decide ((ji_3) < (x_1.length : Int)) = true := decide_eq_true c_14
   (try rw [hl_1] at c_15)
   clear c_14
   obtain ⟨y_2, hy_2⟩ : ∃ y_ : List Int, y_ = (x_1.set ((ji_3) : Int).toNat ((ji_2) % 256)) := ⟨_, rfl⟩
   replace H : (pack_fixed.l0 k1 a0 a1 y_2 (y_1.length : Int) (wrap64 (x_2 + 1))) = some r := by first | (rw [hy_2]; with_reducible exact H) | (have H_1 := (Option.bind_some _ _).symm.trans H; rw [hy_2]; with_reducible exact H_1) | (have H_1 := (Option.bind_some _ _).symm.trans H; with_reducible exact H_1) | with_reducible exact H | (rw [hy_2]; exact H) | exact H
   have Ny_2 := a_ hy_2
   clear hy_2
   have H' := a_ H
   clear H
   have p_1 : 0 ≤ ((ji_3) : Int) := od_
   have q_1 : ((ji_3) : Int) < ((x_1.length : Int) : Int) := od_
   obtain ⟨go_1, co_2, eo_2, gb_1, gl_1, cl_1, HG_1⟩ := Kd.R_form HO_2.out (by omega)
   (first | cases eo_2 | (injection eo_2 with ea_ en_ ec_; (first | subst ea_ | (injection ea_ with ea_; subst ea_)); subst ec_; clear en_))
   have GB_1 := a_ gb_1
   have GG_1 := a_ HG_1
   clear gb_1 gl_1 HG_1
   obtain ⟨hx_1, hf_1⟩ := Kd.R_celln 0 HO_2.out ((ji_3) : Int) p_1 q_1
   replace p_1 := eq_true p_1
   replace q_1 := eq_true q_1
   have HP_1 := Kd.R_putg HO_2.out ((ji_3) : Int) ((ji_2) % 256)
   go_wp2_with (first | ((with_reducible refine gate_store (t := 5) (p := 24) rfl ?_); refine store_event (t := 5) (p := 24) (v := ?vo_w17) (w1 := (wr.setCell ⟨go_1, ((ji_3) : Int).toNat, none⟩ (.int .u8 ((ji_2) % 256)))) ?hg ?ho ?hn ?hr ?_; (case ho => rfl); (case hg => rfl); (case hn => rfl); (case hr => first | (go_simp; done) | (go_simp; rfl)); intro w_2 hw; have hg : wr.grownBy w_2 (some go_1) := (by rw [hw]; exact HP_1.2); have hp_ : Kd.R (Kd.int .u8) 5 w_2 w.heap.size (fun _ => True) (.slice (some ⟨go_1, 0, none⟩) x_1.length co_1) y_2 := (by rw [hw, Ny_2.out]; exact HP_1.1); clear HP_1; replace HO_2 := a_ (hp_); replace HB := a_ ((by rw [hw]; exact below_set (HB.out) GB_1.out : Below w.heap.size w w_2)); clear hg hw hp_))
   (try simp only [← hl_1])
   go_roundg k1
   case measure => have := HK_1.out; omega
   case rel => exact ⟨(y_2), (wrap64 (x_2 + 1)), fz_, H', ⟨by have := HK_1.out; omega⟩, ⟨by (try simp only [hl_1]); refine rq_ ?_; exact HO_2.out⟩, ⟨bl_ HB⟩⟩

mutual
def pack_Sum.l0 : Nat → ByteArray → Int → Int → Option (Int)
 | 0, _, _, _ => none
 | k + 1, x0, x3, x4 => if x4 = (x0.size : Int) then (some x3) else (if 0 ≤ x4 then (if x4 < (x0.size : Int) then (pack_Sum.l1 k x0 (Go.bits .xor .u16 x3 (IntKind.u16.wrap ((IntKind.u16.wrap (bt x0 x4)) * 256))) x4 0) else (none)) else (none))
def pack_Sum.l1 : Nat → ByteArray → Int → Int → Int → Option (Int)
 | 0, _, _, _, _ => none
 | k + 1, x0, x3, x4, x19 => if x19 < 8 then (pack_Sum.l1 k x0 (Go.bits .xor .u16 (IntKind.u16.wrap (x3 * 2)) (IntKind.u16.wrap (4129 * (x3 / 32768)))) x4 (wrap64 (x19 + 1))) else (pack_Sum.l0 k x0 x3 (wrap64 (x4 + 1)))
end
def pack_Sum.f (k : Nat) (a0 : ByteArray) : Option (Int) := pack_Sum.l0 k a0 65535 0
theorem pack_Sum.mono_l : ∀ k, (∀ y0 y1 y2, LeO (pack_Sum.l0 k y0 y1 y2) (pack_Sum.l0 (k + 1) y0 y1 y2)) ∧ (∀ y0 y1 y2 y3, LeO (pack_Sum.l1 k y0 y1 y2 y3) (pack_Sum.l1 (k + 1) y0 y1 y2 y3))
 | 0 => ⟨fun _ _ _ r h => by simp [pack_Sum.l0] at h, fun _ _ _ _ r h => by simp [pack_Sum.l1] at h⟩
 | k + 1 => by
  obtain ⟨ih0, ih1⟩ := pack_Sum.mono_l k
  refine ⟨?_, ?_⟩
  ·intro y0 y1 y2
   unfold pack_Sum.l0
   repeat' with_reducible first | apply ih0 | apply ih1 | apply LeO.refl | apply LeO.none | apply LeO.ite | refine LeO.bind ?_ (fun _ => ?_)
  ·intro y0 y1 y2 y3
   unfold pack_Sum.l1
   repeat' with_reducible first | apply ih0 | apply ih1 | apply LeO.refl | apply LeO.none | apply LeO.ite | refine LeO.bind ?_ (fun _ => ?_)
theorem pack_Sum.mono : ∀ a0 k, LeO (pack_Sum.f k a0) (pack_Sum.f (k + 1) a0) := by
 intro a0 k
 obtain ⟨ih0, ih1⟩ := pack_Sum.mono_l k
 unfold pack_Sum.f
 repeat' with_reducible first | apply ih0 | apply ih1 | apply LeO.refl | apply LeO.none | apply LeO.ite | refine LeO.bind ?_ (fun _ => ?_)
theorem pack_Sum.calls (k : Nat) (a0 : ByteArray) (r : Int) (w : World) (h : pack_Sum.f k a0 = some r) :
  Calls Try.prog 22 #[.string a0] w fun e w' => e = .returned (.int .u16 r) ∧ Drawn0 w w' := by
 have H := h
 unfold pack_Sum.f at H
 clear h
 have H' := a_ H
 clear H
 go_enter Try.func22, Try.ntmps22
 go_wp2
 repeat (go_step3; try (go_wp2))
 go_loopg [3, 4] k (fun kq v3 v4 w' => ∃ (x3_1 : Int) (x4_1 : Int), v3 = .int .u16 x3_1 ∧ v4 = .int .i64 x4_1 ∧ Aside0 (pack_Sum.l0 kq a0 x3_1 x4_1 = some r) ∧ Aside0 (kq ≤ k) ∧ Drawn0 w w')
 case atStart => exact ⟨(65535), (0), fz_, fz_, H', ⟨Nat.le_refl _⟩, dr_⟩
 case round =>
  clear H'
  obtain ⟨x3_1, x4_1, rfl, rfl, HA, HK1, ⟨m1, rfl⟩⟩ := hrel
  cases gk with
  | zero => exact absurd HA.out (by simp [pack_Sum.l0])
  | succ k1 =>
   have H := HA.out
   clear HA
   simp only [pack_Sum.l0] at H
   by_cases c2 : x4_1 = (a0.size : Int)
   ·rw [if_pos c2] at H
    have c2b0 : (x4_1 == (a0.size : Int)) = true := beq_iff_eq.mpr c2
    have c2b1 : (x4_1 != (a0.size : Int)) = false := bne_eq_false_iff_eq.mpr c2
    clear c2
    obtain rfl := Option.some.inj H
    go_wp2
    repeat (go_step3; try (go_wp2))
    try dsimp only [Exit.noGoto]
    go_ret
    exact ⟨fz_, dr_⟩
   rw [if_neg c2] at H
   have c2b0 : (x4_1 == (a0.size : Int)) = false := beq_eq_false_iff_ne.mpr c2
   have c2b1 : (x4_1 != (a0.size : Int)) = true := bne_iff_ne.mpr c2
   by_cases c3 : 0 ≤ x4_1
   rotate_left
   ·rw [if_neg c3] at H
    exact absurd H (by simp)


   rw [if_pos c3] at H
   have c3b0 : decide (0 ≤ x4_1) = true := decide_eq_true c3
   clear c3
   by_cases c4 : x4_1 < (a0.size : Int)
   rotate_left
   ·rw [if_neg c4] at H
    exact absurd H (by simp)
   rw [if_pos c4] at H
   have c4b0 : decide (x4_1 < (a0.size : Int)) = true := decide_eq_true c4
   clear c4
   have H' := a_ H
   clear H
   have p5 : 0 ≤ (x4_1 : Int) := od_
   have q5 : x4_1 < (a0.size : Int) := od_
   have hx5 := bt_at a0 x4_1
   replace p5 := eq_true p5
   replace q5 := eq_true q5
   go_wp2
   repeat (go_step3; try (go_wp2))
   go_loopg [3, 19] k1 (fun kq v3 v19 w' => ∃ (x3_2 : Int) (x19_2 : Int), v3 = .int .u16 x3_2 ∧ v19 = .int .i64 x19_2 ∧ Aside0 (pack_Sum.l1 kq a0 x3_2 x4_1 x19_2 = some r) ∧ Aside0 (kq ≤ k1) ∧ Drawn0 w w')
   case atStart => exact ⟨(Go.bits .xor .u16 x3_1 (IntKind.u16.wrap ((IntKind.u16.wrap (bt a0 x4_1)) * 256))), (0), fz_, fz_, H', ⟨Nat.le_refl _⟩, dr_⟩
   case round =>
    clear H'
    try clear c2
    try clear c2b0
    try clear c2b1
    try clear p2
    try clear c3
    try clear c3b0
    try clear c4
    try clear c4b0
    try clear p5
    try clear q5
    try clear hx5
    try clear p5
    try clear q5
    obtain ⟨x3_2, x19_2, rfl, rfl, HA, HK2, ⟨m2, rfl⟩⟩ := hrel
    cases gk with
    | zero => exact absurd HA.out (by simp [pack_Sum.l1])
    | succ k2 =>
     have H := HA.out
     clear HA
     simp only [pack_Sum.l1] at H
     by_cases c6 : x19_2 < 8
     rotate_left
     ·rw [if_neg c6] at H
      have c6b0 : decide (x19_2 < 8) = false := decide_eq_false c6
      clear c6
      have H' := a_ H
      clear H
      go_wp2
      repeat (go_step3; try (go_wp2))
      go_roundg k2
      case measure => have := HK1.out; have := HK2.out; omega
      case rel => exact ⟨(x3_2), (wrap64 (x4_1 + 1)), fz_, fz_, H', ⟨by have := HK1.out; have := HK2.out; omega⟩, dr_⟩
     rw [if_pos c6] at H
     have c6b0 : decide (x19_2 < 8) = true := decide_eq_true c6
     clear c6
     have H' := a_ H
     clear H
     go_wp2
     repeat (go_step3; try (go_wp2))
     go_roundg k2
     case measure => have := HK1.out; have := HK2.out; omega
     case rel => exact ⟨(Go.bits .xor .u16 (IntKind.u16.wrap (x3_2 * 2)) (IntKind.u16.wrap (4129 * (x3_2 / 32768)))), (wrap64 (x19_2 + 1)), fz_, fz_, H', ⟨by have := HK1.out; have := HK2.out; omega⟩, dr_⟩
def pack_Frame.f (k : Nat) (a0 : ByteArray) : Option (ByteArray × Int) := if (a0.size : Int) > 65536 then (some ((⟨#[]⟩ : ByteArray), 2)) else ((pack_fixed.f k (IntKind.u64.wrap ((a0.size : Int))) 4).bind fun t105 => (if t105.size + a0.size ≤ 9223372036854775807 then ((pack_Sum.f k (t105 ++ a0)).bind fun t106 => ((pack_fixed.f k (IntKind.u64.wrap (t106)) 2).bind fun t107 => (if t105.size + t107.size ≤ 9223372036854775807 then (if (t105 ++ t107).size + a0.size ≤ 9223372036854775807 then (some ((t105 ++ t107) ++ a0, 0)) else (none)) else (none)))) else (none)))
theorem pack_Frame.mono : ∀ a0 k, LeO (pack_Frame.f k a0) (pack_Frame.f (k + 1) a0) := by
 intro a0 k
 unfold pack_Frame.f
 repeat' with_reducible first | apply pack_Sum.mono | apply pack_fixed.mono | apply LeO.refl | apply LeO.none | apply LeO.ite | refine LeO.bind ?_ (fun _ => ?_)
theorem pack_Frame.calls (k : Nat) (a0 : ByteArray) (r1 : ByteArray) (r2 : Int) (w : World) (h : pack_Frame.f k a0 = some (r1, r2)) :
  Calls Try.prog 11 #[.string a0] w fun e w' => e = .returned (.tuple #[.string r1, .int .i64 r2]) ∧ Below w.heap.size w w' := by
 have HB := a_ (Below.refl w.heap.size w)
 have H := h
 unfold pack_Frame.f at H
 clear h
 by_cases c2 : (a0.size : Int) > 65536
 ·rw [if_pos c2] at H
  have c2b0 : decide (65536 < (a0.size : Int)) = true := decide_eq_true c2
  have c2b1 : decide (65536 < a0.size) = true := decide_eq_true (by omega)
  clear c2
  simp only [Option.some.injEq, Prod.mk.injEq] at H
  obtain ⟨rfl, rfl⟩ := H
  go_enter Try.func11, Try.ntmps11
  go_wp2
  go_ret2
  exact ⟨fz_, bl_ HB⟩
 rw [if_neg c2] at H
 have c2b0 : decide (65536 < (a0.size : Int)) = false := decide_eq_false c2
 have c2b1 : decide (65536 < a0.size) = false := decide_eq_false (by omega)
 clear c2
 obtain ⟨t105, A30, H⟩ := Option.bind_eq_some_iff.mp H
 try dsimp only at H
 have A3 := a_ A30
 clear A30
 by_cases c4 : t105.size + a0.size ≤ 9223372036854775807
 rotate_left
 ·rw [if_neg c4] at H
  exact absurd H (by simp)


 rw [if_pos c4] at H
 have c4b0 := eq_true c4
 have c4b1 : decide (t105.size + a0.size ≤ 9223372036854775807) = true := decide_eq_true c4
 try have c4b2 : (9223372036854775807 < t105.size + a0.size) = False := eq_false (Nat.not_lt.2 c4)
 clear c4
 obtain ⟨t106, A50, H⟩ := Option.bind_eq_some_iff.mp H
 try dsimp only at H
 have A5 := a_ A50
 clear A50
 obtain ⟨t107, A60, H⟩ := Option.bind_eq_some_iff.mp H
 try dsimp only at H
 have A6 := a_ A60
 clear A60
 by_cases c7 : t105.size + t107.size ≤ 9223372036854775807
 rotate_left
 ·rw [if_neg c7] at H
  exact absurd H (by simp)
 rw [if_pos c7] at H
 have c7b0 := eq_true c7
 have c7b1 : decide (t105.size + t107.size ≤ 9223372036854775807) = true := decide_eq_true c7
 try have c7b2 : (9223372036854775807 < t105.size + t107.size) = False := eq_false (Nat.not_lt.2 c7)
 clear c7
 by_cases c8 : (t105 ++ t107).size + a0.size ≤ 9223372036854775807
 rotate_left
 ·rw [if_neg c8] at H
  exact absurd H (by simp)
 rw [if_pos c8] at H
 have c8b0 := eq_true c8
 have c8b1 : decide ((t105 ++ t107).size + a0.size ≤ 9223372036854775807) = true := decide_eq_true c8
 try have c8b2 : (9223372036854775807 < (t105 ++ t107).size + a0.size) = False := eq_false (Nat.not_lt.2 c8)
 clear c8
 simp only [Option.some.injEq, Prod.mk.injEq] at H
 obtain ⟨rfl, rfl⟩ := H
 (try (have c8b0x := c8b0; simp only [ByteArray.size_extract, ByteArray.size_append, Nat.min_self, Nat.sub_zero] at c8b0x))
 (try (have c8b1x := c8b1; simp only [ByteArray.size_extract, ByteArray.size_append, Nat.min_self, Nat.sub_zero] at c8b1x))
 (try (have c8b2x := c8b2; simp only [ByteArray.size_extract, ByteArray.size_append, Nat.min_self, Nat.sub_zero] at c8b2x))
 go_enter Try.func11, Try.ntmps11
 go_wp2_with (first | ((with_reducible refine gk_ 21 ?_); refine gl_ (some 11) Try.func21 #[.int .u64 (IntKind.u64.wrap ((a0.size : Int))), .int .i64 4] ?_; (with_reducible refine (pack_fixed.calls k (IntKind.u64.wrap ((a0.size : Int))) 4 t105 _ A3.out).mono ?_); rintro e w9 ⟨rfl, hb⟩; refine ⟨_, rfl, ?_⟩; replace HB := hB_ (bl_ HB) hb; (try clear hb)) | ((with_reducible refine gk_ 22 ?_); refine gl_ (some 16) Try.func22 #[.string (t105 ++ a0)] ?_; (with_reducible refine (pack_Sum.calls k (t105 ++ a0) t106 _ A5.out).mono ?_); rintro e w' ⟨rfl, ⟨nd, rfl⟩⟩; refine ⟨_, rfl, ?_⟩) | ((with_reducible refine gk_ 21 ?_); refine gl_ (some 18) Try.func21 #[.int .u64 (IntKind.u64.wrap (t106)), .int .i64 2] ?_; (with_reducible refine (pack_fixed.calls k (IntKind.u64.wrap (t106)) 2 t107 _ A6.out).mono ?_); rintro e w10 ⟨rfl, hb⟩; refine ⟨_, rfl, ?_⟩; replace HB := hB_ (bl_ HB) hb; (try clear hb)))
 go_ret2
 exact ⟨fz_, bl_ HB⟩
def msg_nothing.f (a0_0 : Int) (a0_1 : Int) (l0_2 : List Int) (a0_3 : ByteArray) : Option (Bool) := if a0_0 = 0 then (if a0_1 = 0 then (if (l0_2.length : Int) = 0 then (some (a0_3.toList == ([] : List UInt8))) else (some false)) else (some false)) else (some false)
theorem msg_nothing.calls (a0_0 : Int) (a0_1 : Int) (A0_2 : Option Addr) (c0_2 : Nat) (l0_2 : List Int) (a0_3 : ByteArray) (r : Bool) (w : World) (hr0_2 : Kd.C (Kd.int .i64) w A0_2 l0_2.length l0_2) (hc0_2 : l0_2.length ≤ c0_2) (h : msg_nothing.f a0_0 a0_1 l0_2 a0_3 = some r) :
  Calls Try.prog 68 #[.agg #[.int .u64 a0_0, .int .u64 a0_1, .slice A0_2 l0_2.length c0_2, .string a0_3]] w fun e w' => e = .returned (.bool r) ∧ Below w.heap.size w w' := by
 have hu_1 := Try.underlying35
 have HR_1 := a_ hr0_2
 have HC_1 := a_ hc0_2
 clear hr0_2 hc0_2
 have HB := a_ (Below.refl w.heap.size w)
 have H := h
 unfold msg_nothing.f at H
 clear h
 by_cases c_1 : a0_0 = 0
 rotate_left
 focus
  rw [if_neg c_1] at H
  have c_2 : (a0_0 == 0) = false := beq_eq_false_iff_ne.mpr c_1
  have c_3 : (a0_0 != 0) = true := bne_iff_ne.mpr c_1
  obtain rfl := Option.some.inj H
 rotate_left
 focus
  rw [if_pos c_1] at H
  have c_2 : (a0_0 == 0) = true := beq_iff_eq.mpr c_1
  have c_3 : (a0_0 != 0) = false := bne_eq_false_iff_eq.mpr c_1
  clear c_1
  by_cases c_4 : a0_1 = 0
  rotate_left
  focus
   rw [if_neg c_4] at H
   have c_5 : (a0_1 == 0) = false := beq_eq_false_iff_ne.mpr c_4
   have c_6 : (a0_1 != 0) = true := bne_iff_ne.mpr c_4
   obtain rfl := Option.some.inj H
  rotate_left
  focus
   rw [if_pos c_4] at H
   have c_5 : (a0_1 == 0) = true := beq_iff_eq.mpr c_4
   have c_6 : (a0_1 != 0) = false := bne_eq_false_iff_eq.mpr c_4
   clear c_4
   by_cases c_7 : (l0_2.length : Int) = 0
   focus
    rw [if_pos c_7] at H
    have c_8 : ((l0_2.length : Int) == 0) = true := beq_iff_eq.mpr c_7
    have c_9 : ((l0_2.length : Int) != 0) = false := bne_eq_false_iff_eq.mpr c_7
    clear c_7
    obtain rfl := Option.some.inj H
   rotate_left
   rw [if_neg c_7] at H
   have c_8 : ((l0_2.length : Int) == 0) = false := beq_eq_false_iff_ne.mpr c_7
   have c_9 : ((l0_2.length : Int) != 0) = true := bne_iff_ne.mpr c_7
   have c_10 : ¬ (l0_2 = []) := fun h_ => c_7 (by rw [h_]; rfl)
   obtain rfl := Option.some.inj H
 all_goals
  go_enter Try.func68, Try.ntmps68
  go_wp2_with ((with_reducible refine gd_ 1 ?_); (try (refine gate_guard (by rfl) ?_; dsimp only)); refine bx_ 1 #[.int .u64 a0_0, .int .u64 a0_1, .slice A0_2 l0_2.length c0_2, .string a0_3] 35 ?_; intro gb_1 hg w_1 hbox hb; have BK_1 := a_ (hbox); have GE_1 := a_ (bs_0 hg HB); replace HB := hB_ (bl_ HB) hb; clear hb hbox hg; obtain ⟨_, _, _, _, _, _, _, _⟩ := c4_ BK_1)
  go_ret
  exact ⟨fz_, bl_1 HB GE_1⟩

end Go.Proofs.Ytcdibodjkdoknaa.PM
