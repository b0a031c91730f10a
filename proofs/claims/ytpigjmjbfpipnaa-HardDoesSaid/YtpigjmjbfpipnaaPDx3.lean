-- By a program of this session.
import Derived.Test.YtpigjmjbfpipnaaPDx0
namespace Go.Proofs.Ytpigjmjbfpipnaa.PD
open Go.RowKit YtpigjmjbfpipnaaW.PrintWords YtpigjmjbfpipnaaW.PrintLast YtpigjmjbfpipnaaW.PrintMore Sh Ytpigjmjbfpipnaa.Op
attribute [local go_sem] max2_int min2_int max_two min_two max_three min_three max_four min_four
set_option linter.unusedVariables false
set_option maxHeartbeats 80000000
set_option maxRecDepth 100000
set_option linter.unusedSimpArgs false

def gafferref02_Copy.f (l0_0 : List (S71)) (a0_1 : Bool) (a0_2 : Int) : Option ((List (S71)) × Bool × Int) := (some (([] : List (S71)) : List (S71))).bind fun y103 => (if y103.length + l0_0.length < 3518437208883 then (some ((y103 ++ l0_0), a0_1, a0_2)) else (none))
theorem gafferref02_Copy.calls (A0_0 : Option Addr) (c0_0 : Nat) (l0_0 : List (S71)) (a0_1 : Bool) (a0_2 : Int) (r1 : List (S71)) (r2 : Bool) (r3 : Int) (w : World) (hr0_0 : Kd.C k71 w A0_0 l0_0.length l0_0) (hc0_0 : l0_0.length ≤ c0_0) (h : gafferref02_Copy.f l0_0 a0_1 a0_2 = some (r1, r2, r3)) :
  Calls Try.prog 14 #[.agg #[.slice A0_0 l0_0.length c0_0, .bool a0_1, .int .i64 a0_2]] w fun e w' => ∃ v0_ : Value, e = .returned (.agg #[v0_, .bool r2, .int .i64 r3]) ∧ Kd.R k71 71 w' w.heap.size (fun _ => True) v0_ r1 ∧ Below w.heap.size w w' := by
 have hu24 := Try.underlying24
 have HR0_0 := a_ hr0_0
 have HC0_0 := a_ hc0_0
 clear hr0_0 hc0_0
 have HB := a_ (Below.refl w.heap.size w)
 have H : ((some (([] : List (S71)) : List (S71))).bind fun y103 => (if y103.length + l0_0.length < 3518437208883 then (some ((y103 ++ l0_0), a0_1, a0_2)) else (none))) = some (r1, r2, r3) := h
 clear h
 obtain ⟨y103, hy103⟩ : ∃ y_ : List (S71), y_ = (([] : List (S71))) := ⟨_, rfl⟩
 replace H : (if y103.length + l0_0.length < 3518437208883 then (some ((y103 ++ l0_0), a0_1, a0_2)) else (none)) = some (r1, r2, r3) := by first | (rw [hy103]; with_reducible exact H) | (have H2_ := (Option.bind_some _ _).symm.trans H; rw [hy103]; with_reducible exact H2_) | (have H2_ := (Option.bind_some _ _).symm.trans H; with_reducible exact H2_) | with_reducible exact H | (rw [hy103]; exact H) | exact H
 have Ny103 := a_ hy103
 clear hy103
 by_cases c2 : y103.length + l0_0.length < 3518437208883
 rotate_left
 ·rw [if_neg c2] at H
  exact absurd H (by simp)


 rw [if_pos c2] at H
 have LMc2 := a_ c2
 clear c2
 obtain ⟨y106, hy106⟩ : ∃ y_ : List (S71), y_ = (y103 ++ l0_0) := ⟨_, rfl⟩
 replace H : (some (y106, a0_1, a0_2)) = some (r1, r2, r3) := by first | (rw [hy106]; with_reducible exact H) | (have H2_ := (Option.bind_some _ _).symm.trans H; rw [hy106]; with_reducible exact H2_) | (have H2_ := (Option.bind_some _ _).symm.trans H; with_reducible exact H2_) | with_reducible exact H | (rw [hy106]; exact H) | exact H
 have Ny106 := a_ hy106
 clear hy106
 simp only [Option.some.injEq, Prod.mk.injEq] at H
 obtain ⟨rfl, rfl, rfl⟩ := H
 go_enter Try.func14, Try.ntmps14
 go_wp2_with (first | ((with_reducible refine gd_ 1 ?_); refine bx_ 1 #[.slice A0_0 l0_0.length c0_0, .bool a0_1, .int .i64 a0_2] 24 ?_; intro gb101 hg w3 hbox hb; have BK101 := a_ (hbox); have GE101 := a_ (bs_0 hg HB); replace HB := hB_ (bl_ HB) hb; clear hb hbox hg) | ((with_reducible refine gd_ 2 ?_); refine bx_ 2 #[.slice none 0 0, .bool false, .int .i64 0] 24 ?_; intro gb102 hg w4 hbox hb; have BK102 := a_ (hbox); have GE102 := a_ (bs_1 hg HB GE101); replace HB := hB_ (bl_1 HB GE101) hb; have NB101_102 := nB_ hg BK101; have NB102_101 := nC_ hg BK101; replace BK101 := bB_ BK101 hb; clear hb hbox hg) | ((with_reducible refine gd_ 3 ?_); refine Kd.R_lit k71 _ 71 ?hg (N := 3) ?hd (xs := ([] : List (S71))) (inner := []) (ok := fun _ => True) (okp := fun _ => True) ?hr ?hp (fun _ hk => hk) trivial (Below.refl _ _) (Nat.le_refl _) (by simp) ?_; (case hd => rfl); (case hg => rfl); (case hr => first | (go_simp; done) | (go_simp; rfl)); (case hp => exact (Reps.none _ _)); intro v104 w5 ho6 hb hg_ hnew_; clear hg_ hnew_; (first | rw [← Ny103.out] at ho6 | (simp only [Int.reduceToNat] at ho6; rw [← Ny103.out] at ho6)); have HO105 := a_ (Kd.R_lower ho6 (below_size (bl_2 HB GE101 GE102))); replace BK101 := bB_ BK101 hb; replace BK102 := bB_ BK102 hb; replace HB := hB_ (bl_2 HB GE101 GE102) hb; clear hb ho6; have hnb7 := NB101_102.out; have hnc7 := NB102_101.out; obtain ⟨hcz8_0, hcz8_1, hcz8_2, hfz8_0, hfz8_1, hfz8_2⟩ := c3_ BK101) | ((with_reducible refine gate_builtin (b := .append) (xs := #[.tmp 3, .tmp 5]) rfl ?_); at_builtin; refine Kd.R_append_rows k71 (w0 := w) w.heap.size rfl (.tmp 3) (.tmp 5) 22 71 (.agg #[(.string ⟨#[]⟩), (.string ⟨#[]⟩), (.int .i64 0)]) 40 rfl Try.underlying22 info71 rfl (by decide) (by omega) v104 y103 l0_0 _ _ _ (fun _ => True) (fun _ => False) rfl rfl ?aO ?aR (fun _ _ h => h) (fun _ h => h.elim) ?aF ?aB ?aS ?aL ?_; (case aR => exact cl_ (Kd.C_below HR0_0.out HB.out)); (case aB => exact (bl_2 HB GE101 GE102)); (case aF => exact (fun _ _ => trivial)); (case aO => exact (by refine rq_ ?_; exact HO105.out)); (case aS => exact (below_size (bl_2 HB GE101 GE102))); (case aL => have := LMc2.out; omega); intro v107 w9 ho hb hg hat; rw [← Ny106.out] at ho; replace BK101 := a_ (blk_grown (g := gb101) (o := .cells #[.slice A0_0 l0_0.length c0_0, .bool a0_1, .int .i64 a0_2] 24 (0, 0)) (bk_ BK101) hg (Kd.R_ne HO105.out BK101.out (by decide))); replace BK102 := a_ (blk_grown (g := gb102) (o := .cells #[.slice none 0 0, .bool false, .int .i64 0] 24 (0, 0)) (bk_ BK102) hg (Kd.R_ne HO105.out BK102.out (by decide))); replace HB := a_ (hb); have HO108 := a_ (ho); clear HO105; clear ho hb hg hat; obtain ⟨Ao10, co10, eo10⟩ := Kd.R_slice HO108.out; subst eo10; obtain ⟨hcz11_0, hcz11_1, hcz11_2, hfz11_0, hfz11_1, hfz11_2⟩ := c3_ BK101; obtain ⟨hcz12_0, hcz12_1, hcz12_2, hfz12_0, hfz12_1, hfz12_2⟩ := c3_ BK102))
 refine bodyPost_ret (results_cell_row rfl _ _ gb102 24 #[.slice Ao10 y106.length co10, .bool a0_1, .int .i64 a0_2] (0, 0) _ rfl (bp_1 BK102 NB102_101) Try.underlying24 rfl (by kernel_rfl)) rfl ?_
 exact ⟨_, fz_, by refine rq_ ?_; exact Kd.R_mono (Kd.R_far (p := ⟨gb102, 2, none⟩) (Kd.R_far (p := ⟨gb102, 1, none⟩) (Kd.R_far (p := ⟨gb102, 0, none⟩) (Kd.R_far (p := ⟨gb101, 0, none⟩) (Kd.R_types (Kd.R_types HO108.out BK101.out (by decide)) BK102.out (by decide)) (fun _ hk => hk.1.2) (.slice Ao10 y106.length co10)) (fun _ hk => hk.2) (.slice Ao10 y106.length co10)) (fun _ hk => hk.2) (.bool a0_1)) (fun _ hk => hk.2) (.int .i64 a0_2)) (fun _ hk => trivial), bl_2 HB GE101 GE102⟩
/-! ### disk_Check: function 37 -/
def disk_Check.l0 : Nat → Bool → List (S71) → Int → Int → List (S71) → Bool → Int → Option (Int)
 | 0, _, _, _, _, _, _, _ => none
 | k + 1, x3, x7, x8, x9, x110000, x110001, x110002 => if x9 < x8 then (if 0 ≤ x9 then (if x9 < (x7.length : Int) then (if x3 = true then (if x9 = 0 then (if ((rd_T71 x7 x9).f2) ≥ 0 then (disk_Check.l0 k (decide (((rd_T71 x7 x9).f2) ≤ (((rd_T71 x7 x9).f1).size : Int))) x7 x8 (wrap64 (x9 + 1)) x110000 x110001 x110002) else (disk_Check.l0 k false x7 x8 (wrap64 (x9 + 1)) x110000 x110001 x110002)) else (if 0 ≤ (wrap64 (x9 - 1)) then (if (wrap64 (x9 - 1)) < (x110000.length : Int) then (if (Op.bytesLess (((rd_T71 x110000 (wrap64 (x9 - 1))).f0).toList) (((rd_T71 x7 x9).f0).toList)) = true then (if ((rd_T71 x7 x9).f2) ≥ 0 then (disk_Check.l0 k (decide (((rd_T71 x7 x9).f2) ≤ (((rd_T71 x7 x9).f1).size : Int))) x7 x8 (wrap64 (x9 + 1)) x110000 x110001 x110002) else (disk_Check.l0 k false x7 x8 (wrap64 (x9 + 1)) x110000 x110001 x110002)) else (disk_Check.l0 k false x7 x8 (wrap64 (x9 + 1)) x110000 x110001 x110002)) else (none)) else (none))) else (disk_Check.l0 k false x7 x8 (wrap64 (x9 + 1)) x110000 x110001 x110002)) else (none)) else (none)) else (if x3 = true then (if (x110000.length : Int) > 4096 then (some 10) else (some 0)) else (some 10))
def disk_Check.f (k : Nat) (l0_0 : List (S71)) (a0_1 : Bool) (a0_2 : Int) : Option (Int) := disk_Check.l0 k true l0_0 (l0_0.length : Int) 0 l0_0 a0_1 a0_2
theorem disk_Check.mono_l : ∀ k, (∀ y0 y1 y2 y3 y4 y5 y6, LeO (disk_Check.l0 k y0 y1 y2 y3 y4 y5 y6) (disk_Check.l0 (k + 1) y0 y1 y2 y3 y4 y5 y6))
 | 0 => fun _ _ _ _ _ _ _ r h => by simp [disk_Check.l0] at h
 | k + 1 => by
  have ih0 := disk_Check.mono_l k
  ·intro y0 y1 y2 y3 y4 y5 y6
   unfold disk_Check.l0
   repeat' with_reducible first | apply ih0 | apply LeO.refl | apply LeO.none | apply LeO.ite | refine LeO.bind ?_ (fun _ => ?_)
theorem disk_Check.mono : ∀ a0 a1 a2 k, LeO (disk_Check.f k a0 a1 a2) (disk_Check.f (k + 1) a0 a1 a2) := by
 intro a0 a1 a2 k
 have ih0 := disk_Check.mono_l k
 unfold disk_Check.f
 repeat' with_reducible first | apply ih0 | apply LeO.refl | apply LeO.none | apply LeO.ite | refine LeO.bind ?_ (fun _ => ?_)
theorem disk_Check.calls (k : Nat) (A0_0 : Option Addr) (c0_0 : Nat) (l0_0 : List (S71)) (a0_1 : Bool) (a0_2 : Int) (r : Int) (w : World) (hr0_0 : Kd.C k71 w A0_0 l0_0.length l0_0) (hc0_0 : l0_0.length ≤ c0_0) (h : disk_Check.f k l0_0 a0_1 a0_2 = some r) :
  Calls Try.prog 37 #[.agg #[.slice A0_0 l0_0.length c0_0, .bool a0_1, .int .i64 a0_2]] w fun e w' => e = .returned (.int .i64 r) ∧ Below w.heap.size w w' := by
 have hu24 := Try.underlying24
 have hu71 := Try.underlying71
 have HR0_0 := a_ hr0_0
 have HC0_0 := a_ hc0_0
 clear hr0_0 hc0_0
 have HB := a_ (Below.refl w.heap.size w)
 have H : (disk_Check.l0 k true l0_0 (l0_0.length : Int) 0 l0_0 a0_1 a0_2) = some r := h
 clear h
 have H' := a_ H
 clear H
 go_enter Try.func37, Try.ntmps37
 go_wp2_with (first | ((with_reducible refine gd_ 1 ?_); (try (refine gate_guard (by rfl) ?_; dsimp only)); refine bx_ 1 #[.slice A0_0 l0_0.length c0_0, .bool a0_1, .int .i64 a0_2] 24 ?_; intro gb109 hg w2 hbox hb; have BK109 := a_ (hbox); have GE109 := a_ (bs_0 hg HB); replace HB := hB_ (bl_ HB) hb; clear hb hbox hg; obtain ⟨hcz3_0, hcz3_1, hcz3_2, hfz3_0, hfz3_1, hfz3_2⟩ := c3_ BK109) | go_quiet (first | ((with_reducible refine gd_ 1 ?_); (try (refine gate_guard (by rfl) ?_; dsimp only)); refine bx_ 1 #[.slice A0_0 l0_0.length c0_0, .bool a0_1, .int .i64 a0_2] 24 ?_; intro gb109 hg w2 hbox hb; have BK109 := a_ (hbox); have GE109 := a_ (bs_0 hg HB); replace HB := hB_ (bl_ HB) hb; clear hb hbox hg; obtain ⟨hcz3_0, hcz3_1, hcz3_2, hfz3_0, hfz3_1, hfz3_2⟩ := c3_ BK109)))
 go_loopg [3, 9] k (fun kq v3 v9 w' => ∃ (x3_1 : Bool) (x9_1 : Int), v3 = .bool x3_1 ∧ v9 = .int .i64 x9_1 ∧ Aside0 (disk_Check.l0 kq x3_1 l0_0 (l0_0.length : Int) x9_1 l0_0 a0_1 a0_2 = some r) ∧ Aside0 (kq ≤ k) ∧ Aside0 (w'.heap[gb109]? = some (.cells #[(.slice A0_0 l0_0.length c0_0), .bool a0_1, .int .i64 a0_2] 24 (0, 0))) ∧ Aside0 (Below w.heap.size w w'))
 case atStart => exact ⟨(true), (0), fz_, fz_, H', ⟨Nat.le_refl _⟩, ⟨bk_ BK109⟩, ⟨bl_1 HB GE109⟩⟩
 case round =>
  clear H'
  try clear p2
  try clear c3
  obtain ⟨x3_1, x9_1, rfl, rfl, HA, HK1, BK109, HB⟩ := hrel
  cases gk with
  | zero => exact absurd HA.out (by simp [disk_Check.l0])
  | succ k1 =>
   have H := HA.out
   clear HA
   simp only [disk_Check.l0] at H
   by_cases c4 : x9_1 < (l0_0.length : Int)
   rotate_left
   ·rw [if_neg c4] at H
    have c4b0 : decide (x9_1 < (l0_0.length : Int)) = false := decide_eq_false c4
    clear c4
    by_cases c36 : x3_1 = true
    rotate_left
    ·replace c36 := Bool.eq_false_iff.mpr c36
     subst c36
     have H1 : (some 10) = some r := by rw [if_neg (show ¬ (false = true) by decide)] at H; exact H
     clear H
     have H := H1
     clear H1
     obtain rfl := Option.some.inj H
     go_wp2
     repeat (go_quiet (fail); try go_wp2)
     go_ret
     exact ⟨fz_, bl_1 HB GE109⟩


    subst c36
    have H1 : (if (l0_0.length : Int) > 4096 then (some 10) else (some 0)) = some r := by rw [if_pos rfl] at H; exact H
    clear H
    have H := H1
    clear H1
    by_cases c37 : (l0_0.length : Int) > 4096
    ·rw [if_pos c37] at H
     have c37b0 : decide (4096 < (l0_0.length : Int)) = true := decide_eq_true c37
     have c37b1 : decide (4096 < l0_0.length) = true := decide_eq_true (by omega)
     clear c37
     obtain rfl := Option.some.inj H
     obtain ⟨hcz38_0, hcz38_1, hcz38_2, hfz38_0, hfz38_1, hfz38_2⟩ := c3_ BK109
     go_wp2
     repeat (go_quiet (fail); try go_wp2)
     go_ret
     exact ⟨fz_, bl_1 HB GE109⟩
    rw [if_neg c37] at H
    have c37b0 : decide (4096 < (l0_0.length : Int)) = false := decide_eq_false c37
    have c37b1 : decide (4096 < l0_0.length) = false := decide_eq_false (by omega)
    clear c37
    obtain rfl := Option.some.inj H
    obtain ⟨hcz39_0, hcz39_1, hcz39_2, hfz39_0, hfz39_1, hfz39_2⟩ := c3_ BK109
    go_wp2
    repeat (go_quiet (fail); try go_wp2)
    go_ret
    exact ⟨fz_, bl_1 HB GE109⟩
   rw [if_pos c4] at H
   have c4b0 : decide (x9_1 < (l0_0.length : Int)) = true := decide_eq_true c4
   clear c4
   by_cases c5 : 0 ≤ x9_1
   rotate_left
   ·rw [if_neg c5] at H
    exact absurd H (by simp)
   rw [if_pos c5] at H
   have c5b0 : decide (0 ≤ x9_1) = true := decide_eq_true c5
   clear c5
   by_cases c6 : x9_1 < (l0_0.length : Int)
   rotate_left
   ·rw [if_neg c6] at H
    exact absurd H (by simp)
   rw [if_pos c6] at H
   have c6b0 : decide (x9_1 < (l0_0.length : Int)) = true := decide_eq_true c6
   clear c6
   by_cases c7 : x3_1 = true
   rotate_left
   ·replace c7 := Bool.eq_false_iff.mpr c7
    subst c7
    have H1 : (disk_Check.l0 k1 false l0_0 (l0_0.length : Int) (wrap64 (x9_1 + 1)) l0_0 a0_1 a0_2) = some r := by rw [if_neg (show ¬ (false = true) by decide)] at H; exact H
    clear H
    have H := H1
    clear H1
    have H' := a_ H
    clear H
    have p110 : 0 ≤ (x9_1 : Int) := od_
    have q110 : x9_1 < (l0_0.length : Int) := od_
    obtain ⟨ad110, e110, hx110_0, hx110_1, hx110_2⟩ := at_T71 HR0_0.out x9_1 p110 q110
    cases e110
    replace hx110_0 := hc_ HB hx110_0
    replace hx110_1 := hc_ HB hx110_1
    replace hx110_2 := hc_ HB hx110_2
    replace p110 := eq_true p110
    replace q110 := eq_true q110
    go_wp2_with (first | ((with_reducible refine gd_ 5 ?_); (try (refine gate_guard (by rfl) ?_; dsimp only)); refine bx_ 5 #[.string (⟨#[]⟩ : ByteArray), .string (⟨#[]⟩ : ByteArray), .int .i64 0] 71 ?_; intro gb111 hg w33 hbox hb; have BK111 := a_ (hbox); have GW111 := a_ (bs_1 hg HB GE109); have GE111 := a_ (bs_1 hg HB GE109); replace HB := hB_ (bl_1 HB GE109) hb; have NB109_111 := nB_ hg BK109; have NB111_109 := nC_ hg BK109; replace BK109 := bB_ BK109 hb; clear hb hbox hg; have hnb34 := NB111_109.out; have hnc34 := NB109_111.out; obtain ⟨hcz35_0, hcz35_1, hcz35_2, hfz35_0, hfz35_1, hfz35_2⟩ := c3_ BK111) | go_quiet (first | ((with_reducible refine gd_ 5 ?_); (try (refine gate_guard (by rfl) ?_; dsimp only)); refine bx_ 5 #[.string (⟨#[]⟩ : ByteArray), .string (⟨#[]⟩ : ByteArray), .int .i64 0] 71 ?_; intro gb111 hg w33 hbox hb; have BK111 := a_ (hbox); have GW111 := a_ (bs_1 hg HB GE109); have GE111 := a_ (bs_1 hg HB GE109); replace HB := hB_ (bl_1 HB GE109) hb; have NB109_111 := nB_ hg BK109; have NB111_109 := nC_ hg BK109; replace BK109 := bB_ BK109 hb; clear hb hbox hg; have hnb34 := NB111_109.out; have hnc34 := NB109_111.out; obtain ⟨hcz35_0, hcz35_1, hcz35_2, hfz35_0, hfz35_1, hfz35_2⟩ := c3_ BK111)))
    go_roundg k1
    case measure => have := HK1.out; omega
    case rel => exact ⟨(false), (wrap64 (x9_1 + 1)), fz_, fz_, H', ⟨by have := HK1.out; omega⟩, ⟨by refine bq_ ?_; refine blk_far ?_ NB109_111.out _; refine bq_ ?_; refine blk_far ?_ NB109_111.out _; refine bq_ ?_; refine blk_far ?_ NB109_111.out _; refine bq_ ?_; exact BK109.out⟩, ⟨bl_2 HB GE109 GE111⟩⟩
   subst c7
   have H1 : (if x9_1 = 0 then (if ((rd_T71 l0_0 x9_1).f2) ≥ 0 then (disk_Check.l0 k1 (decide (((rd_T71 l0_0 x9_1).f2) ≤ (((rd_T71 l0_0 x9_1).f1).size : Int))) l0_0 (l0_0.length : Int) (wrap64 (x9_1 + 1)) l0_0 a0_1 a0_2) else (disk_Check.l0 k1 false l0_0 (l0_0.length : Int) (wrap64 (x9_1 + 1)) l0_0 a0_1 a0_2)) else (if 0 ≤ (wrap64 (x9_1 - 1)) then (if (wrap64 (x9_1 - 1)) < (l0_0.length : Int) then (if (Op.bytesLess (((rd_T71 l0_0 (wrap64 (x9_1 - 1))).f0).toList) (((rd_T71 l0_0 x9_1).f0).toList)) = true then (if ((rd_T71 l0_0 x9_1).f2) ≥ 0 then (disk_Check.l0 k1 (decide (((rd_T71 l0_0 x9_1).f2) ≤ (((rd_T71 l0_0 x9_1).f1).size : Int))) l0_0 (l0_0.length : Int) (wrap64 (x9_1 + 1)) l0_0 a0_1 a0_2) else (disk_Check.l0 k1 false l0_0 (l0_0.length : Int) (wrap64 (x9_1 + 1)) l0_0 a0_1 a0_2)) else (disk_Check.l0 k1 false l0_0 (l0_0.length : Int) (wrap64 (x9_1 + 1)) l0_0 a0_1 a0_2)) else (none)) else (none))) = some r := by rw [if_pos rfl] at H; exact H
   clear H
   have H := H1
   clear H1
   by_cases c8 : x9_1 = 0
   ·rw [if_pos c8] at H
    have c8b0 : (x9_1 == 0) = true := beq_iff_eq.mpr c8
    have c8b1 : (x9_1 != 0) = false := bne_eq_false_iff_eq.mpr c8
    clear c8
    by_cases c9 : ((rd_T71 l0_0 x9_1).f2) ≥ 0
    rotate_left
    ·rw [if_neg c9] at H
     have c9b0 : decide (0 ≤ ((rd_T71 l0_0 x9_1).f2)) = false := decide_eq_false c9
     clear c9
     have H' := a_ H
     clear H
     have p110 : 0 ≤ (x9_1 : Int) := od_
     have q110 : x9_1 < (l0_0.length : Int) := od_
     obtain ⟨ad110, e110, hx110_0, hx110_1, hx110_2⟩ := at_T71 HR0_0.out x9_1 p110 q110
     cases e110
     replace hx110_0 := hc_ HB hx110_0
     replace hx110_1 := hc_ HB hx110_1
     replace hx110_2 := hc_ HB hx110_2
     replace p110 := eq_true p110
     replace q110 := eq_true q110
     go_wp2_with (first | ((with_reducible refine gd_ 5 ?_); (try (refine gate_guard (by rfl) ?_; dsimp only)); refine bx_ 5 #[.string (⟨#[]⟩ : ByteArray), .string (⟨#[]⟩ : ByteArray), .int .i64 0] 71 ?_; intro gb111 hg w13 hbox hb; have BK111 := a_ (hbox); have GW111 := a_ (bs_1 hg HB GE109); have GE111 := a_ (bs_1 hg HB GE109); replace HB := hB_ (bl_1 HB GE109) hb; have NB109_111 := nB_ hg BK109; have NB111_109 := nC_ hg BK109; replace BK109 := bB_ BK109 hb; clear hb hbox hg; have hnb14 := NB111_109.out; have hnc14 := NB109_111.out; obtain ⟨hcz15_0, hcz15_1, hcz15_2, hfz15_0, hfz15_1, hfz15_2⟩ := c3_ BK111) | go_quiet (first | ((with_reducible refine gd_ 5 ?_); (try (refine gate_guard (by rfl) ?_; dsimp only)); refine bx_ 5 #[.string (⟨#[]⟩ : ByteArray), .string (⟨#[]⟩ : ByteArray), .int .i64 0] 71 ?_; intro gb111 hg w13 hbox hb; have BK111 := a_ (hbox); have GW111 := a_ (bs_1 hg HB GE109); have GE111 := a_ (bs_1 hg HB GE109); replace HB := hB_ (bl_1 HB GE109) hb; have NB109_111 := nB_ hg BK109; have NB111_109 := nC_ hg BK109; replace BK109 := bB_ BK109 hb; clear hb hbox hg; have hnb14 := NB111_109.out; have hnc14 := NB109_111.out; obtain ⟨hcz15_0, hcz15_1, hcz15_2, hfz15_0, hfz15_1, hfz15_2⟩ := c3_ BK111)))
     go_roundg k1
     case measure => have := HK1.out; omega
     case rel => exact ⟨(false), (wrap64 (x9_1 + 1)), fz_, fz_, H', ⟨by have := HK1.out; omega⟩, ⟨by refine bq_ ?_; refine blk_far ?_ NB109_111.out _; refine bq_ ?_; refine blk_far ?_ NB109_111.out _; refine bq_ ?_; refine blk_far ?_ NB109_111.out _; refine bq_ ?_; exact BK109.out⟩, ⟨bl_2 HB GE109 GE111⟩⟩
    rw [if_pos c9] at H
    have c9b0 : decide (0 ≤ ((rd_T71 l0_0 x9_1).f2)) = true := decide_eq_true c9
    clear c9
    have H' := a_ H
    clear H
    have p110 : 0 ≤ (x9_1 : Int) := od_
    have q110 : x9_1 < (l0_0.length : Int) := od_
    obtain ⟨ad110, e110, hx110_0, hx110_1, hx110_2⟩ := at_T71 HR0_0.out x9_1 p110 q110
    cases e110
    replace hx110_0 := hc_ HB hx110_0
    replace hx110_1 := hc_ HB hx110_1
    replace hx110_2 := hc_ HB hx110_2
    replace p110 := eq_true p110
    replace q110 := eq_true q110
    go_wp2_with (first | ((with_reducible refine gd_ 5 ?_); (try (refine gate_guard (by rfl) ?_; dsimp only)); refine bx_ 5 #[.string (⟨#[]⟩ : ByteArray), .string (⟨#[]⟩ : ByteArray), .int .i64 0] 71 ?_; intro gb111 hg w10 hbox hb; have BK111 := a_ (hbox); have GW111 := a_ (bs_1 hg HB GE109); have GE111 := a_ (bs_1 hg HB GE109); replace HB := hB_ (bl_1 HB GE109) hb; have NB109_111 := nB_ hg BK109; have NB111_109 := nC_ hg BK109; replace BK109 := bB_ BK109 hb; clear hb hbox hg; have hnb11 := NB111_109.out; have hnc11 := NB109_111.out; obtain ⟨hcz12_0, hcz12_1, hcz12_2, hfz12_0, hfz12_1, hfz12_2⟩ := c3_ BK111) | go_quiet (first | ((with_reducible refine gd_ 5 ?_); (try (refine gate_guard (by rfl) ?_; dsimp only)); refine bx_ 5 #[.string (⟨#[]⟩ : ByteArray), .string (⟨#[]⟩ : ByteArray), .int .i64 0] 71 ?_; intro gb111 hg w10 hbox hb; have BK111 := a_ (hbox); have GW111 := a_ (bs_1 hg HB GE109); have GE111 := a_ (bs_1 hg HB GE109); replace HB := hB_ (bl_1 HB GE109) hb; have NB109_111 := nB_ hg BK109; have NB111_109 := nC_ hg BK109; replace BK109 := bB_ BK109 hb; clear hb hbox hg; have hnb11 := NB111_109.out; have hnc11 := NB109_111.out; obtain ⟨hcz12_0, hcz12_1, hcz12_2, hfz12_0, hfz12_1, hfz12_2⟩ := c3_ BK111)))
    go_roundg k1
    case measure => have := HK1.out; omega
    case rel => exact ⟨(decide (((rd_T71 l0_0 x9_1).f2) ≤ (((rd_T71 l0_0 x9_1).f1).size : Int))), (wrap64 (x9_1 + 1)), fz_, fz_, H', ⟨by have := HK1.out; omega⟩, ⟨by refine bq_ ?_; refine blk_far ?_ NB109_111.out _; refine bq_ ?_; refine blk_far ?_ NB109_111.out _; refine bq_ ?_; refine blk_far ?_ NB109_111.out _; refine bq_ ?_; exact BK109.out⟩, ⟨bl_2 HB GE109 GE111⟩⟩
   rw [if_neg c8] at H
   have c8b0 : (x9_1 == 0) = false := beq_eq_false_iff_ne.mpr c8
   have c8b1 : (x9_1 != 0) = true := bne_iff_ne.mpr c8
   obtain ⟨ji16, hji16⟩ : ∃ j_ : Int, (wrap64 (x9_1 - 1)) = j_ := ⟨_, rfl⟩
   replace H : (if 0 ≤ (ji16) then (if (ji16) < (l0_0.length : Int) then (if (Op.bytesLess (((rd_T71 l0_0 (ji16)).f0).toList) (((rd_T71 l0_0 x9_1).f0).toList)) = true then (if ((rd_T71 l0_0 x9_1).f2) ≥ 0 then (disk_Check.l0 k1 (decide (((rd_T71 l0_0 x9_1).f2) ≤ (((rd_T71 l0_0 x9_1).f1).size : Int))) l0_0 (l0_0.length : Int) (wrap64 (x9_1 + 1)) l0_0 a0_1 a0_2) else (disk_Check.l0 k1 false l0_0 (l0_0.length : Int) (wrap64 (x9_1 + 1)) l0_0 a0_1 a0_2)) else (disk_Check.l0 k1 false l0_0 (l0_0.length : Int) (wrap64 (x9_1 + 1)) l0_0 a0_1 a0_2)) else (none)) else (none)) = some r := by first | (rw [hji16] at H; exact H) | (simp only [hji16] at H ⊢; exact H)
   have hji16w : (IntKind.i64.wrap (x9_1 - 1)) = ji16 := (i64_w _).trans hji16
   by_cases c17 : 0 ≤ (ji16)
   rotate_left
   ·rw [if_neg c17] at H
    exact absurd H (by simp)
   rw [if_pos c17] at H
   have c17b0 : decide (0 ≤ (ji16)) = true := decide_eq_true c17
   clear c17
   by_cases c18 : (ji16) < (l0_0.length : Int)
   rotate_left
   ·rw [if_neg c18] at H
    exact absurd H (by simp)
   rw [if_pos c18] at H
   have c18b0 : decide ((ji16) < (l0_0.length : Int)) = true := decide_eq_true c18
   clear c18
   by_cases c19 : (Op.bytesLess (((rd_T71 l0_0 (ji16)).f0).toList) (((rd_T71 l0_0 x9_1).f0).toList)) = true
   rotate_left
   ·rw [if_neg c19] at H
    have c19b0 : (Op.bytesLess (((rd_T71 l0_0 (ji16)).f0).toList) (((rd_T71 l0_0 x9_1).f0).toList)) = false := by simpa using c19
    clear c19
    have H' := a_ H
    clear H
    have p110 : 0 ≤ (x9_1 : Int) := od_
    have q110 : x9_1 < (l0_0.length : Int) := od_
    obtain ⟨ad110, e110, hx110_0, hx110_1, hx110_2⟩ := at_T71 HR0_0.out x9_1 p110 q110
    cases e110
    replace hx110_0 := hc_ HB hx110_0
    replace hx110_1 := hc_ HB hx110_1
    replace hx110_2 := hc_ HB hx110_2
    replace p110 := eq_true p110
    replace q110 := eq_true q110
    go_wp2_with (first | ((with_reducible refine gd_ 5 ?_); (try (refine gate_guard (by rfl) ?_; dsimp only)); refine bx_ 5 #[.string (⟨#[]⟩ : ByteArray), .string (⟨#[]⟩ : ByteArray), .int .i64 0] 71 ?_; intro gb111 hg w29 hbox hb; have BK111 := a_ (hbox); have GW111 := a_ (bs_1 hg HB GE109); have GE111 := a_ (bs_1 hg HB GE109); replace HB := hB_ (bl_1 HB GE109) hb; have NB109_111 := nB_ hg BK109; have NB111_109 := nC_ hg BK109; replace BK109 := bB_ BK109 hb; clear hb hbox hg; have hnb30 := NB111_109.out; have hnc30 := NB109_111.out; obtain ⟨hcz31_0, hcz31_1, hcz31_2, hfz31_0, hfz31_1, hfz31_2⟩ := c3_ BK111; obtain ⟨hcz32_0, hcz32_1, hcz32_2, hfz32_0, hfz32_1, hfz32_2⟩ := c3_ BK109; have p112 : 0 ≤ ((ji16) : Int) := od_; have q112 : (ji16) < (l0_0.length : Int) := od_; obtain ⟨ad112, e112, hx112_0, hx112_1, hx112_2⟩ := at_T71 HR0_0.out (ji16) p112 q112; obtain rfl : ad110 = ad112 := (by injection e112); have hn112_0 : ad110.block ≠ gb111 := Nat.ne_of_lt (Nat.lt_of_lt_of_le (by have := World.block_lt_of_cell? _ _ hx112_0; first | rwa [add_block] at this | exact this) GW111.out); have hn112_1 : ad110.block ≠ gb111 := Nat.ne_of_lt (Nat.lt_of_lt_of_le (by have := World.block_lt_of_cell? _ _ hx112_0; first | rwa [add_block] at this | exact this) GW111.out); have hn112_2 : ad110.block ≠ gb111 := Nat.ne_of_lt (Nat.lt_of_lt_of_le (by have := World.block_lt_of_cell? _ _ hx112_0; first | rwa [add_block] at this | exact this) GW111.out); replace hx112_0 := (HB.out.cell (World.block_lt_of_cell? w _ hx112_0)).trans hx112_0; replace hx112_1 := (HB.out.cell (World.block_lt_of_cell? w _ hx112_1)).trans hx112_1; replace hx112_2 := (HB.out.cell (World.block_lt_of_cell? w _ hx112_2)).trans hx112_2; replace hx112_0 := (cf_ (p := ⟨gb111, 0, none⟩) hn112_0 (.string ((rd_T71 l0_0 x9_1).f0))).trans hx112_0; replace hx112_1 := (cf_ (p := ⟨gb111, 0, none⟩) hn112_0 (.string ((rd_T71 l0_0 x9_1).f0))).trans hx112_1; replace hx112_2 := (cf_ (p := ⟨gb111, 0, none⟩) hn112_0 (.string ((rd_T71 l0_0 x9_1).f0))).trans hx112_2; replace hx112_0 := (cf_ (p := ⟨gb111, 1, none⟩) hn112_1 (.string ((rd_T71 l0_0 x9_1).f1))).trans hx112_0; replace hx112_1 := (cf_ (p := ⟨gb111, 1, none⟩) hn112_1 (.string ((rd_T71 l0_0 x9_1).f1))).trans hx112_1; replace hx112_2 := (cf_ (p := ⟨gb111, 1, none⟩) hn112_1 (.string ((rd_T71 l0_0 x9_1).f1))).trans hx112_2; replace hx112_0 := (cf_ (p := ⟨gb111, 2, none⟩) hn112_2 (.int .i64 ((rd_T71 l0_0 x9_1).f2))).trans hx112_0; replace hx112_1 := (cf_ (p := ⟨gb111, 2, none⟩) hn112_2 (.int .i64 ((rd_T71 l0_0 x9_1).f2))).trans hx112_1; replace hx112_2 := (cf_ (p := ⟨gb111, 2, none⟩) hn112_2 (.int .i64 ((rd_T71 l0_0 x9_1).f2))).trans hx112_2; (try have hy112_0 := fun (n_ : Nat) => (show (((((w29.drewN n_).setCell ⟨gb111, 0, none⟩ (.string ((rd_T71 l0_0 x9_1).f0))).setCell ⟨gb111, 1, none⟩ (.string ((rd_T71 l0_0 x9_1).f1))).setCell ⟨gb111, 2, none⟩ (.int .i64 ((rd_T71 l0_0 x9_1).f2)))).cell? _ = some _ from hx112_0)); (try have hy112_1 := fun (n_ : Nat) => (show (((((w29.drewN n_).setCell ⟨gb111, 0, none⟩ (.string ((rd_T71 l0_0 x9_1).f0))).setCell ⟨gb111, 1, none⟩ (.string ((rd_T71 l0_0 x9_1).f1))).setCell ⟨gb111, 2, none⟩ (.int .i64 ((rd_T71 l0_0 x9_1).f2)))).cell? _ = some _ from hx112_1)); (try have hy112_2 := fun (n_ : Nat) => (show (((((w29.drewN n_).setCell ⟨gb111, 0, none⟩ (.string ((rd_T71 l0_0 x9_1).f0))).setCell ⟨gb111, 1, none⟩ (.string ((rd_T71 l0_0 x9_1).f1))).setCell ⟨gb111, 2, none⟩ (.int .i64 ((rd_T71 l0_0 x9_1).f2)))).cell? _ = some _ from hx112_2)); clear hn112_0; clear hn112_1; clear hn112_2; replace p112 := eq_true p112; replace q112 := eq_true q112) | go_quiet (first | ((with_reducible refine gd_ 5 ?_); (try (refine gate_guard (by rfl) ?_; dsimp only)); refine bx_ 5 #[.string (⟨#[]⟩ : ByteArray), .string (⟨#[]⟩ : ByteArray), .int .i64 0] 71 ?_; intro gb111 hg w29 hbox hb; have BK111 := a_ (hbox); have GW111 := a_ (bs_1 hg HB GE109); have GE111 := a_ (bs_1 hg HB GE109); replace HB := hB_ (bl_1 HB GE109) hb; have NB109_111 := nB_ hg BK109; have NB111_109 := nC_ hg BK109; replace BK109 := bB_ BK109 hb; clear hb hbox hg; have hnb30 := NB111_109.out; have hnc30 := NB109_111.out; obtain ⟨hcz31_0, hcz31_1, hcz31_2, hfz31_0, hfz31_1, hfz31_2⟩ := c3_ BK111; obtain ⟨hcz32_0, hcz32_1, hcz32_2, hfz32_0, hfz32_1, hfz32_2⟩ := c3_ BK109; have p112 : 0 ≤ ((ji16) : Int) := od_; have q112 : (ji16) < (l0_0.length : Int) := od_; obtain ⟨ad112, e112, hx112_0, hx112_1, hx112_2⟩ := at_T71 HR0_0.out (ji16) p112 q112; obtain rfl : ad110 = ad112 := (by injection e112); have hn112_0 : ad110.block ≠ gb111 := Nat.ne_of_lt (Nat.lt_of_lt_of_le (by have := World.block_lt_of_cell? _ _ hx112_0; first | rwa [add_block] at this | exact this) GW111.out); have hn112_1 : ad110.block ≠ gb111 := Nat.ne_of_lt (Nat.lt_of_lt_of_le (by have := World.block_lt_of_cell? _ _ hx112_0; first | rwa [add_block] at this | exact this) GW111.out); have hn112_2 : ad110.block ≠ gb111 := Nat.ne_of_lt (Nat.lt_of_lt_of_le (by have := World.block_lt_of_cell? _ _ hx112_0; first | rwa [add_block] at this | exact this) GW111.out); replace hx112_0 := (HB.out.cell (World.block_lt_of_cell? w _ hx112_0)).trans hx112_0; replace hx112_1 := (HB.out.cell (World.block_lt_of_cell? w _ hx112_1)).trans hx112_1; replace hx112_2 := (HB.out.cell (World.block_lt_of_cell? w _ hx112_2)).trans hx112_2; replace hx112_0 := (cf_ (p := ⟨gb111, 0, none⟩) hn112_0 (.string ((rd_T71 l0_0 x9_1).f0))).trans hx112_0; replace hx112_1 := (cf_ (p := ⟨gb111, 0, none⟩) hn112_0 (.string ((rd_T71 l0_0 x9_1).f0))).trans hx112_1; replace hx112_2 := (cf_ (p := ⟨gb111, 0, none⟩) hn112_0 (.string ((rd_T71 l0_0 x9_1).f0))).trans hx112_2; replace hx112_0 := (cf_ (p := ⟨gb111, 1, none⟩) hn112_1 (.string ((rd_T71 l0_0 x9_1).f1))).trans hx112_0; replace hx112_1 := (cf_ (p := ⟨gb111, 1, none⟩) hn112_1 (.string ((rd_T71 l0_0 x9_1).f1))).trans hx112_1; replace hx112_2 := (cf_ (p := ⟨gb111, 1, none⟩) hn112_1 (.string ((rd_T71 l0_0 x9_1).f1))).trans hx112_2; replace hx112_0 := (cf_ (p := ⟨gb111, 2, none⟩) hn112_2 (.int .i64 ((rd_T71 l0_0 x9_1).f2))).trans hx112_0; replace hx112_1 := (cf_ (p := ⟨gb111, 2, none⟩) hn112_2 (.int .i64 ((rd_T71 l0_0 x9_1).f2))).trans hx112_1; replace hx112_2 := (cf_ (p := ⟨gb111, 2, none⟩) hn112_2 (.int .i64 ((rd_T71 l0_0 x9_1).f2))).trans hx112_2; (try have hy112_0 := fun (n_ : Nat) => (show (((((w29.drewN n_).setCell ⟨gb111, 0, none⟩ (.string ((rd_T71 l0_0 x9_1).f0))).setCell ⟨gb111, 1, none⟩ (.string ((rd_T71 l0_0 x9_1).f1))).setCell ⟨gb111, 2, none⟩ (.int .i64 ((rd_T71 l0_0 x9_1).f2)))).cell? _ = some _ from hx112_0)); (try have hy112_1 := fun (n_ : Nat) => (show (((((w29.drewN n_).setCell ⟨gb111, 0, none⟩ (.string ((rd_T71 l0_0 x9_1).f0))).setCell ⟨gb111, 1, none⟩ (.string ((rd_T71 l0_0 x9_1).f1))).setCell ⟨gb111, 2, none⟩ (.int .i64 ((rd_T71 l0_0 x9_1).f2)))).cell? _ = some _ from hx112_1)); (try have hy112_2 := fun (n_ : Nat) => (show (((((w29.drewN n_).setCell ⟨gb111, 0, none⟩ (.string ((rd_T71 l0_0 x9_1).f0))).setCell ⟨gb111, 1, none⟩ (.string ((rd_T71 l0_0 x9_1).f1))).setCell ⟨gb111, 2, none⟩ (.int .i64 ((rd_T71 l0_0 x9_1).f2)))).cell? _ = some _ from hx112_2)); clear hn112_0; clear hn112_1; clear hn112_2; replace p112 := eq_true p112; replace q112 := eq_true q112)))
    go_roundg k1
    case measure => have := HK1.out; omega
    case rel => exact ⟨(false), (wrap64 (x9_1 + 1)), fz_, fz_, H', ⟨by have := HK1.out; omega⟩, ⟨by refine bq_ ?_; refine blk_far ?_ NB109_111.out _; refine bq_ ?_; refine blk_far ?_ NB109_111.out _; refine bq_ ?_; refine blk_far ?_ NB109_111.out _; refine bq_ ?_; exact BK109.out⟩, ⟨bl_2 HB GE109 GE111⟩⟩
   rw [if_pos c19] at H
   have c19b0 : (Op.bytesLess (((rd_T71 l0_0 (ji16)).f0).toList) (((rd_T71 l0_0 x9_1).f0).toList)) = true := c19
   clear c19
   by_cases c20 : ((rd_T71 l0_0 x9_1).f2) ≥ 0
   rotate_left
   ·rw [if_neg c20] at H
    have c20b0 : decide (0 ≤ ((rd_T71 l0_0 x9_1).f2)) = false := decide_eq_false c20
    clear c20
    have H' := a_ H
    clear H
    have p110 : 0 ≤ (x9_1 : Int) := od_
    have q110 : x9_1 < (l0_0.length : Int) := od_
    obtain ⟨ad110, e110, hx110_0, hx110_1, hx110_2⟩ := at_T71 HR0_0.out x9_1 p110 q110
    cases e110
    replace hx110_0 := hc_ HB hx110_0
    replace hx110_1 := hc_ HB hx110_1
    replace hx110_2 := hc_ HB hx110_2
    replace p110 := eq_true p110
    replace q110 := eq_true q110
    go_wp2_with (first | ((with_reducible refine gd_ 5 ?_); (try (refine gate_guard (by rfl) ?_; dsimp only)); refine bx_ 5 #[.string (⟨#[]⟩ : ByteArray), .string (⟨#[]⟩ : ByteArray), .int .i64 0] 71 ?_; intro gb111 hg w25 hbox hb; have BK111 := a_ (hbox); have GW111 := a_ (bs_1 hg HB GE109); have GE111 := a_ (bs_1 hg HB GE109); replace HB := hB_ (bl_1 HB GE109) hb; have NB109_111 := nB_ hg BK109; have NB111_109 := nC_ hg BK109; replace BK109 := bB_ BK109 hb; clear hb hbox hg; have hnb26 := NB111_109.out; have hnc26 := NB109_111.out; obtain ⟨hcz27_0, hcz27_1, hcz27_2, hfz27_0, hfz27_1, hfz27_2⟩ := c3_ BK111; obtain ⟨hcz28_0, hcz28_1, hcz28_2, hfz28_0, hfz28_1, hfz28_2⟩ := c3_ BK109; have p112 : 0 ≤ ((ji16) : Int) := od_; have q112 : (ji16) < (l0_0.length : Int) := od_; obtain ⟨ad112, e112, hx112_0, hx112_1, hx112_2⟩ := at_T71 HR0_0.out (ji16) p112 q112; obtain rfl : ad110 = ad112 := (by injection e112); have hn112_0 : ad110.block ≠ gb111 := Nat.ne_of_lt (Nat.lt_of_lt_of_le (by have := World.block_lt_of_cell? _ _ hx112_0; first | rwa [add_block] at this | exact this) GW111.out); have hn112_1 : ad110.block ≠ gb111 := Nat.ne_of_lt (Nat.lt_of_lt_of_le (by have := World.block_lt_of_cell? _ _ hx112_0; first | rwa [add_block] at this | exact this) GW111.out); have hn112_2 : ad110.block ≠ gb111 := Nat.ne_of_lt (Nat.lt_of_lt_of_le (by have := World.block_lt_of_cell? _ _ hx112_0; first | rwa [add_block] at this | exact this) GW111.out); replace hx112_0 := (HB.out.cell (World.block_lt_of_cell? w _ hx112_0)).trans hx112_0; replace hx112_1 := (HB.out.cell (World.block_lt_of_cell? w _ hx112_1)).trans hx112_1; replace hx112_2 := (HB.out.cell (World.block_lt_of_cell? w _ hx112_2)).trans hx112_2; replace hx112_0 := (cf_ (p := ⟨gb111, 0, none⟩) hn112_0 (.string ((rd_T71 l0_0 x9_1).f0))).trans hx112_0; replace hx112_1 := (cf_ (p := ⟨gb111, 0, none⟩) hn112_0 (.string ((rd_T71 l0_0 x9_1).f0))).trans hx112_1; replace hx112_2 := (cf_ (p := ⟨gb111, 0, none⟩) hn112_0 (.string ((rd_T71 l0_0 x9_1).f0))).trans hx112_2; replace hx112_0 := (cf_ (p := ⟨gb111, 1, none⟩) hn112_1 (.string ((rd_T71 l0_0 x9_1).f1))).trans hx112_0; replace hx112_1 := (cf_ (p := ⟨gb111, 1, none⟩) hn112_1 (.string ((rd_T71 l0_0 x9_1).f1))).trans hx112_1; replace hx112_2 := (cf_ (p := ⟨gb111, 1, none⟩) hn112_1 (.string ((rd_T71 l0_0 x9_1).f1))).trans hx112_2; replace hx112_0 := (cf_ (p := ⟨gb111, 2, none⟩) hn112_2 (.int .i64 ((rd_T71 l0_0 x9_1).f2))).trans hx112_0; replace hx112_1 := (cf_ (p := ⟨gb111, 2, none⟩) hn112_2 (.int .i64 ((rd_T71 l0_0 x9_1).f2))).trans hx112_1; replace hx112_2 := (cf_ (p := ⟨gb111, 2, none⟩) hn112_2 (.int .i64 ((rd_T71 l0_0 x9_1).f2))).trans hx112_2; (try have hy112_0 := fun (n_ : Nat) => (show (((((w25.drewN n_).setCell ⟨gb111, 0, none⟩ (.string ((rd_T71 l0_0 x9_1).f0))).setCell ⟨gb111, 1, none⟩ (.string ((rd_T71 l0_0 x9_1).f1))).setCell ⟨gb111, 2, none⟩ (.int .i64 ((rd_T71 l0_0 x9_1).f2)))).cell? _ = some _ from hx112_0)); (try have hy112_1 := fun (n_ : Nat) => (show (((((w25.drewN n_).setCell ⟨gb111, 0, none⟩ (.string ((rd_T71 l0_0 x9_1).f0))).setCell ⟨gb111, 1, none⟩ (.string ((rd_T71 l0_0 x9_1).f1))).setCell ⟨gb111, 2, none⟩ (.int .i64 ((rd_T71 l0_0 x9_1).f2)))).cell? _ = some _ from hx112_1)); (try have hy112_2 := fun (n_ : Nat) => (show (((((w25.drewN n_).setCell ⟨gb111, 0, none⟩ (.string ((rd_T71 l0_0 x9_1).f0))).setCell ⟨gb111, 1, none⟩ (.string ((rd_T71 l0_0 x9_1).f1))).setCell ⟨gb111, 2, none⟩ (.int .i64 ((rd_T71 l0_0 x9_1).f2)))).cell? _ = some _ from hx112_2)); clear hn112_0; clear hn112_1; clear hn112_2; replace p112 := eq_true p112; replace q112 := eq_true q112) | go_quiet (first | ((with_reducible refine gd_ 5 ?_); (try (refine gate_guard (by rfl) ?_; dsimp only)); refine bx_ 5 #[.string (⟨#[]⟩ : ByteArray), .string (⟨#[]⟩ : ByteArray), .int .i64 0] 71 ?_; intro gb111 hg w25 hbox hb; have BK111 := a_ (hbox); have GW111 := a_ (bs_1 hg HB GE109); have GE111 := a_ (bs_1 hg HB GE109); replace HB := hB_ (bl_1 HB GE109) hb; have NB109_111 := nB_ hg BK109; have NB111_109 := nC_ hg BK109; replace BK109 := bB_ BK109 hb; clear hb hbox hg; have hnb26 := NB111_109.out; have hnc26 := NB109_111.out; obtain ⟨hcz27_0, hcz27_1, hcz27_2, hfz27_0, hfz27_1, hfz27_2⟩ := c3_ BK111; obtain ⟨hcz28_0, hcz28_1, hcz28_2, hfz28_0, hfz28_1, hfz28_2⟩ := c3_ BK109; have p112 : 0 ≤ ((ji16) : Int) := od_; have q112 : (ji16) < (l0_0.length : Int) := od_; obtain ⟨ad112, e112, hx112_0, hx112_1, hx112_2⟩ := at_T71 HR0_0.out (ji16) p112 q112; obtain rfl : ad110 = ad112 := (by injection e112); have hn112_0 : ad110.block ≠ gb111 := Nat.ne_of_lt (Nat.lt_of_lt_of_le (by have := World.block_lt_of_cell? _ _ hx112_0; first | rwa [add_block] at this | exact this) GW111.out); have hn112_1 : ad110.block ≠ gb111 := Nat.ne_of_lt (Nat.lt_of_lt_of_le (by have := World.block_lt_of_cell? _ _ hx112_0; first | rwa [add_block] at this | exact this) GW111.out); have hn112_2 : ad110.block ≠ gb111 := Nat.ne_of_lt (Nat.lt_of_lt_of_le (by have := World.block_lt_of_cell? _ _ hx112_0; first | rwa [add_block] at this | exact this) GW111.out); replace hx112_0 := (HB.out.cell (World.block_lt_of_cell? w _ hx112_0)).trans hx112_0; replace hx112_1 := (HB.out.cell (World.block_lt_of_cell? w _ hx112_1)).trans hx112_1; replace hx112_2 := (HB.out.cell (World.block_lt_of_cell? w _ hx112_2)).trans hx112_2; replace hx112_0 := (cf_ (p := ⟨gb111, 0, none⟩) hn112_0 (.string ((rd_T71 l0_0 x9_1).f0))).trans hx112_0; replace hx112_1 := (cf_ (p := ⟨gb111, 0, none⟩) hn112_0 (.string ((rd_T71 l0_0 x9_1).f0))).trans hx112_1; replace hx112_2 := (cf_ (p := ⟨gb111, 0, none⟩) hn112_0 (.string ((rd_T71 l0_0 x9_1).f0))).trans hx112_2; replace hx112_0 := (cf_ (p := ⟨gb111, 1, none⟩) hn112_1 (.string ((rd_T71 l0_0 x9_1).f1))).trans hx112_0; replace hx112_1 := (cf_ (p := ⟨gb111, 1, none⟩) hn112_1 (.string ((rd_T71 l0_0 x9_1).f1))).trans hx112_1; replace hx112_2 := (cf_ (p := ⟨gb111, 1, none⟩) hn112_1 (.string ((rd_T71 l0_0 x9_1).f1))).trans hx112_2; replace hx112_0 := (cf_ (p := ⟨gb111, 2, none⟩) hn112_2 (.int .i64 ((rd_T71 l0_0 x9_1).f2))).trans hx112_0; replace hx112_1 := (cf_ (p := ⟨gb111, 2, none⟩) hn112_2 (.int .i64 ((rd_T71 l0_0 x9_1).f2))).trans hx112_1; replace hx112_2 := (cf_ (p := ⟨gb111, 2, none⟩) hn112_2 (.int .i64 ((rd_T71 l0_0 x9_1).f2))).trans hx112_2; (try have hy112_0 := fun (n_ : Nat) => (show (((((w25.drewN n_).setCell ⟨gb111, 0, none⟩ (.string ((rd_T71 l0_0 x9_1).f0))).setCell ⟨gb111, 1, none⟩ (.string ((rd_T71 l0_0 x9_1).f1))).setCell ⟨gb111, 2, none⟩ (.int .i64 ((rd_T71 l0_0 x9_1).f2)))).cell? _ = some _ from hx112_0)); (try have hy112_1 := fun (n_ : Nat) => (show (((((w25.drewN n_).setCell ⟨gb111, 0, none⟩ (.string ((rd_T71 l0_0 x9_1).f0))).setCell ⟨gb111, 1, none⟩ (.string ((rd_T71 l0_0 x9_1).f1))).setCell ⟨gb111, 2, none⟩ (.int .i64 ((rd_T71 l0_0 x9_1).f2)))).cell? _ = some _ from hx112_1)); (try have hy112_2 := fun (n_ : Nat) => (show (((((w25.drewN n_).setCell ⟨gb111, 0, none⟩ (.string ((rd_T71 l0_0 x9_1).f0))).setCell ⟨gb111, 1, none⟩ (.string ((rd_T71 l0_0 x9_1).f1))).setCell ⟨gb111, 2, none⟩ (.int .i64 ((rd_T71 l0_0 x9_1).f2)))).cell? _ = some _ from hx112_2)); clear hn112_0; clear hn112_1; clear hn112_2; replace p112 := eq_true p112; replace q112 := eq_true q112)))
    go_roundg k1
    case measure => have := HK1.out; omega
    case rel => exact ⟨(false), (wrap64 (x9_1 + 1)), fz_, fz_, H', ⟨by have := HK1.out; omega⟩, ⟨by refine bq_ ?_; refine blk_far ?_ NB109_111.out _; refine bq_ ?_; refine blk_far ?_ NB109_111.out _; refine bq_ ?_; refine blk_far ?_ NB109_111.out _; refine bq_ ?_; exact BK109.out⟩, ⟨bl_2 HB GE109 GE111⟩⟩
   rw [if_pos c20] at H
   have c20b0 : decide (0 ≤ ((rd_T71 l0_0 x9_1).f2)) = true := decide_eq_true c20
   clear c20
   have H' := a_ H
   clear H
   have p110 : 0 ≤ (x9_1 : Int) := od_
   have q110 : x9_1 < (l0_0.length : Int) := od_
   obtain ⟨ad110, e110, hx110_0, hx110_1, hx110_2⟩ := at_T71 HR0_0.out x9_1 p110 q110
   cases e110
   replace hx110_0 := hc_ HB hx110_0
   replace hx110_1 := hc_ HB hx110_1
   replace hx110_2 := hc_ HB hx110_2
   replace p110 := eq_true p110
   replace q110 := eq_true q110
   go_wp2_with (first | ((with_reducible refine gd_ 5 ?_); (try (refine gate_guard (by rfl) ?_; dsimp only)); refine bx_ 5 #[.string (⟨#[]⟩ : ByteArray), .string (⟨#[]⟩ : ByteArray), .int .i64 0] 71 ?_; intro gb111 hg w21 hbox hb; have BK111 := a_ (hbox); have GW111 := a_ (bs_1 hg HB GE109); have GE111 := a_ (bs_1 hg HB GE109); replace HB := hB_ (bl_1 HB GE109) hb; have NB109_111 := nB_ hg BK109; have NB111_109 := nC_ hg BK109; replace BK109 := bB_ BK109 hb; clear hb hbox hg; have hnb22 := NB111_109.out; have hnc22 := NB109_111.out; obtain ⟨hcz23_0, hcz23_1, hcz23_2, hfz23_0, hfz23_1, hfz23_2⟩ := c3_ BK111; obtain ⟨hcz24_0, hcz24_1, hcz24_2, hfz24_0, hfz24_1, hfz24_2⟩ := c3_ BK109; have p112 : 0 ≤ ((ji16) : Int) := od_; have q112 : (ji16) < (l0_0.length : Int) := od_; obtain ⟨ad112, e112, hx112_0, hx112_1, hx112_2⟩ := at_T71 HR0_0.out (ji16) p112 q112; obtain rfl : ad110 = ad112 := (by injection e112); have hn112_0 : ad110.block ≠ gb111 := Nat.ne_of_lt (Nat.lt_of_lt_of_le (by have := World.block_lt_of_cell? _ _ hx112_0; first | rwa [add_block] at this | exact this) GW111.out); have hn112_1 : ad110.block ≠ gb111 := Nat.ne_of_lt (Nat.lt_of_lt_of_le (by have := World.block_lt_of_cell? _ _ hx112_0; first | rwa [add_block] at this | exact this) GW111.out); have hn112_2 : ad110.block ≠ gb111 := Nat.ne_of_lt (Nat.lt_of_lt_of_le (by have := World.block_lt_of_cell? _ _ hx112_0; first | rwa [add_block] at this | exact this) GW111.out); replace hx112_0 := (HB.out.cell (World.block_lt_of_cell? w _ hx112_0)).trans hx112_0; replace hx112_1 := (HB.out.cell (World.block_lt_of_cell? w _ hx112_1)).trans hx112_1; replace hx112_2 := (HB.out.cell (World.block_lt_of_cell? w _ hx112_2)).trans hx112_2; replace hx112_0 := (cf_ (p := ⟨gb111, 0, none⟩) hn112_0 (.string ((rd_T71 l0_0 x9_1).f0))).trans hx112_0; replace hx112_1 := (cf_ (p := ⟨gb111, 0, none⟩) hn112_0 (.string ((rd_T71 l0_0 x9_1).f0))).trans hx112_1; replace hx112_2 := (cf_ (p := ⟨gb111, 0, none⟩) hn112_0 (.string ((rd_T71 l0_0 x9_1).f0))).trans hx112_2; replace hx112_0 := (cf_ (p := ⟨gb111, 1, none⟩) hn112_1 (.string ((rd_T71 l0_0 x9_1).f1))).trans hx112_0; replace hx112_1 := (cf_ (p := ⟨gb111, 1, none⟩) hn112_1 (.string ((rd_T71 l0_0 x9_1).f1))).trans hx112_1; replace hx112_2 := (cf_ (p := ⟨gb111, 1, none⟩) hn112_1 (.string ((rd_T71 l0_0 x9_1).f1))).trans hx112_2; replace hx112_0 := (cf_ (p := ⟨gb111, 2, none⟩) hn112_2 (.int .i64 ((rd_T71 l0_0 x9_1).f2))).trans hx112_0; replace hx112_1 := (cf_ (p := ⟨gb111, 2, none⟩) hn112_2 (.int .i64 ((rd_T71 l0_0 x9_1).f2))).trans hx112_1; replace hx112_2 := (cf_ (p := ⟨gb111, 2, none⟩) hn112_2 (.int .i64 ((rd_T71 l0_0 x9_1).f2))).trans hx112_2; (try have hy112_0 := fun (n_ : Nat) => (show (((((w21.drewN n_).setCell ⟨gb111, 0, none⟩ (.string ((rd_T71 l0_0 x9_1).f0))).setCell ⟨gb111, 1, none⟩ (.string ((rd_T71 l0_0 x9_1).f1))).setCell ⟨gb111, 2, none⟩ (.int .i64 ((rd_T71 l0_0 x9_1).f2)))).cell? _ = some _ from hx112_0)); (try have hy112_1 := fun (n_ : Nat) => (show (((((w21.drewN n_).setCell ⟨gb111, 0, none⟩ (.string ((rd_T71 l0_0 x9_1).f0))).setCell ⟨gb111, 1, none⟩ (.string ((rd_T71 l0_0 x9_1).f1))).setCell ⟨gb111, 2, none⟩ (.int .i64 ((rd_T71 l0_0 x9_1).f2)))).cell? _ = some _ from hx112_1)); (try have hy112_2 := fun (n_ : Nat) => (show (((((w21.drewN n_).setCell ⟨gb111, 0, none⟩ (.string ((rd_T71 l0_0 x9_1).f0))).setCell ⟨gb111, 1, none⟩ (.string ((rd_T71 l0_0 x9_1).f1))).setCell ⟨gb111, 2, none⟩ (.int .i64 ((rd_T71 l0_0 x9_1).f2)))).cell? _ = some _ from hx112_2)); clear hn112_0; clear hn112_1; clear hn112_2; replace p112 := eq_true p112; replace q112 := eq_true q112) | go_quiet (first | ((with_reducible refine gd_ 5 ?_); (try (refine gate_guard (by rfl) ?_; dsimp only)); refine bx_ 5 #[.string (⟨#[]⟩ : ByteArray), .string (⟨#[]⟩ : ByteArray), .int .i64 0] 71 ?_; intro gb111 hg w21 hbox hb; have BK111 := a_ (hbox); have GW111 := a_ (bs_1 hg HB GE109); have GE111 := a_ (bs_1 hg HB GE109); replace HB := hB_ (bl_1 HB GE109) hb; have NB109_111 := nB_ hg BK109; have NB111_109 := nC_ hg BK109; replace BK109 := bB_ BK109 hb; clear hb hbox hg; have hnb22 := NB111_109.out; have hnc22 := NB109_111.out; obtain ⟨hcz23_0, hcz23_1, hcz23_2, hfz23_0, hfz23_1, hfz23_2⟩ := c3_ BK111; obtain ⟨hcz24_0, hcz24_1, hcz24_2, hfz24_0, hfz24_1, hfz24_2⟩ := c3_ BK109; have p112 : 0 ≤ ((ji16) : Int) := od_; have q112 : (ji16) < (l0_0.length : Int) := od_; obtain ⟨ad112, e112, hx112_0, hx112_1, hx112_2⟩ := at_T71 HR0_0.out (ji16) p112 q112; obtain rfl : ad110 = ad112 := (by injection e112); have hn112_0 : ad110.block ≠ gb111 := Nat.ne_of_lt (Nat.lt_of_lt_of_le (by have := World.block_lt_of_cell? _ _ hx112_0; first | rwa [add_block] at this | exact this) GW111.out); have hn112_1 : ad110.block ≠ gb111 := Nat.ne_of_lt (Nat.lt_of_lt_of_le (by have := World.block_lt_of_cell? _ _ hx112_0; first | rwa [add_block] at this | exact this) GW111.out); have hn112_2 : ad110.block ≠ gb111 := Nat.ne_of_lt (Nat.lt_of_lt_of_le (by have := World.block_lt_of_cell? _ _ hx112_0; first | rwa [add_block] at this | exact this) GW111.out); replace hx112_0 := (HB.out.cell (World.block_lt_of_cell? w _ hx112_0)).trans hx112_0; replace hx112_1 := (HB.out.cell (World.block_lt_of_cell? w _ hx112_1)).trans hx112_1; replace hx112_2 := (HB.out.cell (World.block_lt_of_cell? w _ hx112_2)).trans hx112_2; replace hx112_0 := (cf_ (p := ⟨gb111, 0, none⟩) hn112_0 (.string ((rd_T71 l0_0 x9_1).f0))).trans hx112_0; replace hx112_1 := (cf_ (p := ⟨gb111, 0, none⟩) hn112_0 (.string ((rd_T71 l0_0 x9_1).f0))).trans hx112_1; replace hx112_2 := (cf_ (p := ⟨gb111, 0, none⟩) hn112_0 (.string ((rd_T71 l0_0 x9_1).f0))).trans hx112_2; replace hx112_0 := (cf_ (p := ⟨gb111, 1, none⟩) hn112_1 (.string ((rd_T71 l0_0 x9_1).f1))).trans hx112_0; replace hx112_1 := (cf_ (p := ⟨gb111, 1, none⟩) hn112_1 (.string ((rd_T71 l0_0 x9_1).f1))).trans hx112_1; replace hx112_2 := (cf_ (p := ⟨gb111, 1, none⟩) hn112_1 (.string ((rd_T71 l0_0 x9_1).f1))).trans hx112_2; replace hx112_0 := (cf_ (p := ⟨gb111, 2, none⟩) hn112_2 (.int .i64 ((rd_T71 l0_0 x9_1).f2))).trans hx112_0; replace hx112_1 := (cf_ (p := ⟨gb111, 2, none⟩) hn112_2 (.int .i64 ((rd_T71 l0_0 x9_1).f2))).trans hx112_1; replace hx112_2 := (cf_ (p := ⟨gb111, 2, none⟩) hn112_2 (.int .i64 ((rd_T71 l0_0 x9_1).f2))).trans hx112_2; (try have hy112_0 := fun (n_ : Nat) => (show (((((w21.drewN n_).setCell ⟨gb111, 0, none⟩ (.string ((rd_T71 l0_0 x9_1).f0))).setCell ⟨gb111, 1, none⟩ (.string ((rd_T71 l0_0 x9_1).f1))).setCell ⟨gb111, 2, none⟩ (.int .i64 ((rd_T71 l0_0 x9_1).f2)))).cell? _ = some _ from hx112_0)); (try have hy112_1 := fun (n_ : Nat) => (show (((((w21.drewN n_).setCell ⟨gb111, 0, none⟩ (.string ((rd_T71 l0_0 x9_1).f0))).setCell ⟨gb111, 1, none⟩ (.string ((rd_T71 l0_0 x9_1).f1))).setCell ⟨gb111, 2, none⟩ (.int .i64 ((rd_T71 l0_0 x9_1).f2)))).cell? _ = some _ from hx112_1)); (try have hy112_2 := fun (n_ : Nat) => (show (((((w21.drewN n_).setCell ⟨gb111, 0, none⟩ (.string ((rd_T71 l0_0 x9_1).f0))).setCell ⟨gb111, 1, none⟩ (.string ((rd_T71 l0_0 x9_1).f1))).setCell ⟨gb111, 2, none⟩ (.int .i64 ((rd_T71 l0_0 x9_1).f2)))).cell? _ = some _ from hx112_2)); clear hn112_0; clear hn112_1; clear hn112_2; replace p112 := eq_true p112; replace q112 := eq_true q112)))
   go_roundg k1
   case measure => have := HK1.out; omega
   case rel => exact ⟨(decide (((rd_T71 l0_0 x9_1).f2) ≤ (((rd_T71 l0_0 x9_1).f1).size : Int))), (wrap64 (x9_1 + 1)), fz_, fz_, H', ⟨by have := HK1.out; omega⟩, ⟨by refine bq_ ?_; refine blk_far ?_ NB109_111.out _; refine bq_ ?_; refine blk_far ?_ NB109_111.out _; refine bq_ ?_; refine blk_far ?_ NB109_111.out _; refine bq_ ?_; exact BK109.out⟩, ⟨bl_2 HB GE109 GE111⟩⟩
/-! ### disk_asked: function 49 -/
def disk_asked.f (k : Nat) (l0_0 : List (S71)) (a0_1 : Bool) (a0_2 : Int) : Option (Int) := (disk_Check.f k l0_0 a0_1 a0_2).bind fun t114 => (if t114 = 0 then (if a0_1 = true then (some 8) else (some 0)) else (some t114))
theorem disk_asked.mono : ∀ a0 a1 a2 k, LeO (disk_asked.f k a0 a1 a2) (disk_asked.f (k + 1) a0 a1 a2) := by
 intro a0 a1 a2 k
 unfold disk_asked.f
 repeat' with_reducible first | apply disk_Check.mono | apply LeO.refl | apply LeO.none | apply LeO.ite | refine LeO.bind ?_ (fun _ => ?_)
theorem disk_asked.calls (k : Nat) (A0_0 : Option Addr) (c0_0 : Nat) (l0_0 : List (S71)) (a0_1 : Bool) (a0_2 : Int) (r : Int) (w : World) (hr0_0 : Kd.C k71 w A0_0 l0_0.length l0_0) (hc0_0 : l0_0.length ≤ c0_0) (h : disk_asked.f k l0_0 a0_1 a0_2 = some r) :
  Calls Try.prog 49 #[.agg #[.slice A0_0 l0_0.length c0_0, .bool a0_1, .int .i64 a0_2]] w fun e w' => e = .returned (.int .i64 r) ∧ Below w.heap.size w w' := by
 have hu24 := Try.underlying24
 have HR0_0 := a_ hr0_0
 have HC0_0 := a_ hc0_0
 clear hr0_0 hc0_0
 have HB := a_ (Below.refl w.heap.size w)
 have H : ((disk_Check.f k l0_0 a0_1 a0_2).bind fun t114 => (if t114 = 0 then (if a0_1 = true then (some 8) else (some 0)) else (some t114))) = some r := h
 clear h
 obtain ⟨t114, A20, H⟩ := Option.bind_eq_some_iff.mp H
 try dsimp only at H
 have A2 := a_ A20
 clear A20
 by_cases c3 : t114 = 0
 rotate_left
 ·rw [if_neg c3] at H
  have c3b0 : (t114 == 0) = false := beq_eq_false_iff_ne.mpr c3
  have c3b1 : (t114 != 0) = true := bne_iff_ne.mpr c3
  obtain rfl := Option.some.inj H
  go_enter Try.func49, Try.ntmps49
  go_wp2_with (first | ((with_reducible refine gd_ 1 ?_); refine bx_ 1 #[.slice A0_0 l0_0.length c0_0, .bool a0_1, .int .i64 a0_2] 24 ?_; intro gb113 hg w13 hbox hb; have BK113 := a_ (hbox); have GE113 := a_ (bs_0 hg HB); replace HB := hB_ (bl_ HB) hb; clear hb hbox hg; obtain ⟨hcz14_0, hcz14_1, hcz14_2, hfz14_0, hfz14_1, hfz14_2⟩ := c3_ BK113) | ((with_reducible refine gk_ 37 ?_); refine gl_ (some 5) Try.func37 #[.agg #[.slice A0_0 l0_0.length c0_0, .bool a0_1, .int .i64 a0_2]] ?_; (with_reducible refine (disk_Check.calls k _ _ l0_0 a0_1 a0_2 t114 _ ?side1 ?side2 A2.out).mono ?_); (case side1 => exact cl_ (Kd.C_below HR0_0.out HB.out)); (case side2 => exact HC0_0.out); rintro e w15 ⟨rfl, hb⟩; refine ⟨_, rfl, ?_⟩; replace BK113 := bB_ BK113 hb; replace HB := hB_ (bl_1 HB GE113) hb; (try clear hb)))
  go_ret
  exact ⟨fz_, bl_1 HB GE113⟩


 rw [if_pos c3] at H
 have c3b0 : (t114 == 0) = true := beq_iff_eq.mpr c3
 have c3b1 : (t114 != 0) = false := bne_eq_false_iff_eq.mpr c3
 clear c3
 by_cases c4 : a0_1 = true
 ·subst c4
  have H1 : (some 8) = some r := by rw [if_pos rfl] at H; exact H
  clear H
  have H := H1
  clear H1
  obtain rfl := Option.some.inj H
  go_enter Try.func49, Try.ntmps49
  go_wp2_with (first | ((with_reducible refine gd_ 1 ?_); refine bx_ 1 #[.slice A0_0 l0_0.length c0_0, .bool true, .int .i64 a0_2] 24 ?_; intro gb113 hg w5 hbox hb; have BK113 := a_ (hbox); have GE113 := a_ (bs_0 hg HB); replace HB := hB_ (bl_ HB) hb; clear hb hbox hg; obtain ⟨hcz6_0, hcz6_1, hcz6_2, hfz6_0, hfz6_1, hfz6_2⟩ := c3_ BK113) | ((with_reducible refine gk_ 37 ?_); refine gl_ (some 5) Try.func37 #[.agg #[.slice A0_0 l0_0.length c0_0, .bool true, .int .i64 a0_2]] ?_; (with_reducible refine (disk_Check.calls k _ _ l0_0 true a0_2 t114 _ ?side1 ?side2 A2.out).mono ?_); (case side1 => exact cl_ (Kd.C_below HR0_0.out HB.out)); (case side2 => exact HC0_0.out); rintro e w7 ⟨rfl, hb⟩; refine ⟨_, rfl, ?_⟩; replace BK113 := bB_ BK113 hb; replace HB := hB_ (bl_1 HB GE113) hb; (try clear hb); obtain ⟨hcz8_0, hcz8_1, hcz8_2, hfz8_0, hfz8_1, hfz8_2⟩ := c3_ BK113))
  go_ret
  exact ⟨fz_, bl_1 HB GE113⟩
 replace c4 := Bool.eq_false_iff.mpr c4
 subst c4
 have H1 : (some 0) = some r := by rw [if_neg (show ¬ (false = true) by decide)] at H; exact H
 clear H
 have H := H1
 clear H1
 obtain rfl := Option.some.inj H
 go_enter Try.func49, Try.ntmps49
 go_wp2_with (first | ((with_reducible refine gd_ 1 ?_); refine bx_ 1 #[.slice A0_0 l0_0.length c0_0, .bool false, .int .i64 a0_2] 24 ?_; intro gb113 hg w9 hbox hb; have BK113 := a_ (hbox); have GE113 := a_ (bs_0 hg HB); replace HB := hB_ (bl_ HB) hb; clear hb hbox hg; obtain ⟨hcz10_0, hcz10_1, hcz10_2, hfz10_0, hfz10_1, hfz10_2⟩ := c3_ BK113) | ((with_reducible refine gk_ 37 ?_); refine gl_ (some 5) Try.func37 #[.agg #[.slice A0_0 l0_0.length c0_0, .bool false, .int .i64 a0_2]] ?_; (with_reducible refine (disk_Check.calls k _ _ l0_0 false a0_2 t114 _ ?side1 ?side2 A2.out).mono ?_); (case side1 => exact cl_ (Kd.C_below HR0_0.out HB.out)); (case side2 => exact HC0_0.out); rintro e w11 ⟨rfl, hb⟩; refine ⟨_, rfl, ?_⟩; replace BK113 := bB_ BK113 hb; replace HB := hB_ (bl_1 HB GE113) hb; (try clear hb); obtain ⟨hcz12_0, hcz12_1, hcz12_2, hfz12_0, hfz12_1, hfz12_2⟩ := c3_ BK113))
 go_ret
 exact ⟨fz_, bl_1 HB GE113⟩
/-! ### cmp_isNaN_string: function 103 -/
def cmp_isNaN_string.f (a0 : ByteArray) : Option (Bool) := some (a0.toList != a0.toList)
theorem cmp_isNaN_string.calls (a0 : ByteArray) (r : Bool) (w : World) (h : cmp_isNaN_string.f a0 = some r) :
  Calls Try.prog 103 #[.string a0] w fun e w' => e = .returned (.bool r) ∧ Drawn0 w w' := by
 have H : (some (a0.toList != a0.toList)) = some r := h
 clear h
 obtain rfl := Option.some.inj H
 go_enter Try.func103, Try.ntmps103
 go_wp2
 go_ret
 exact ⟨fz_, dr_⟩

def cmp_Compare_string.f (a0 : ByteArray) (a1 : ByteArray) : Option (Int) := (cmp_isNaN_string.f a0).bind fun t115 => ((cmp_isNaN_string.f a1).bind fun t116 => (if t115 = true then (if t116 = true then (some 0) else (some (-1))) else (if t116 = true then (some 1) else (if (Op.bytesLess a0.toList a1.toList) = true then (some (-1)) else (if (Op.bytesLess a1.toList a0.toList) = true then (some 1) else (some 0))))))
theorem cmp_Compare_string.calls (a0 : ByteArray) (a1 : ByteArray) (r : Int) (w : World) (h : cmp_Compare_string.f a0 a1 = some r) :
  Calls Try.prog 81 #[.string a0, .string a1] w fun e w' => e = .returned (.int .i64 r) ∧ Drawn0 w w' := by
 have H : ((cmp_isNaN_string.f a0).bind fun t115 => ((cmp_isNaN_string.f a1).bind fun t116 => (if t115 = true then (if t116 = true then (some 0) else (some (-1))) else (if t116 = true then (some 1) else (if (Op.bytesLess a0.toList a1.toList) = true then (some (-1)) else (if (Op.bytesLess a1.toList a0.toList) = true then (some 1) else (some 0))))))) = some r := h
 clear h
 obtain ⟨t115, A30, H⟩ := Option.bind_eq_some_iff.mp H
 try dsimp only at H
 have A3 := a_ A30
 clear A30
 obtain ⟨t116, A40, H⟩ := Option.bind_eq_some_iff.mp H
 try dsimp only at H
 have A4 := a_ A40
 clear A40
 by_cases c5 : t115 = true
 ·subst c5
  have H1 : (if t116 = true then (some 0) else (some (-1))) = some r := by rw [if_pos rfl] at H; exact H
  clear H
  have H := H1
  clear H1
  by_cases c6 : t116 = true
  ·subst c6
   have H1 : (some 0) = some r := by rw [if_pos rfl] at H; exact H
   clear H
   have H := H1
   clear H1
   obtain rfl := Option.some.inj H
   go_enter Try.func81, Try.ntmps81
   go_wp2_with (first | ((with_reducible refine gk_ 103 ?_); refine gl_ (some 8) Try.func103 #[.string a0] ?_; (with_reducible refine (cmp_isNaN_string.calls a0 true _ A3.out).mono ?_); rintro e w' ⟨rfl, ⟨nd, rfl⟩⟩; refine ⟨_, rfl, ?_⟩) | ((with_reducible refine gk_ 103 ?_); refine gl_ (some 10) Try.func103 #[.string a1] ?_; (with_reducible refine (cmp_isNaN_string.calls a1 true _ A4.out).mono ?_); rintro e w' ⟨rfl, ⟨nd, rfl⟩⟩; refine ⟨_, rfl, ?_⟩))
   go_ret
   exact ⟨fz_, dr_⟩
  replace c6 := Bool.eq_false_iff.mpr c6
  subst c6
  have H1 : (some (-1)) = some r := by rw [if_neg (show ¬ (false = true) by decide)] at H; exact H
  clear H
  have H := H1
  clear H1
  obtain rfl := Option.some.inj H
  go_enter Try.func81, Try.ntmps81
  go_wp2_with (first | ((with_reducible refine gk_ 103 ?_); refine gl_ (some 8) Try.func103 #[.string a0] ?_; (with_reducible refine (cmp_isNaN_string.calls a0 true _ A3.out).mono ?_); rintro e w' ⟨rfl, ⟨nd, rfl⟩⟩; refine ⟨_, rfl, ?_⟩) | ((with_reducible refine gk_ 103 ?_); refine gl_ (some 10) Try.func103 #[.string a1] ?_; (with_reducible refine (cmp_isNaN_string.calls a1 false _ A4.out).mono ?_); rintro e w' ⟨rfl, ⟨nd, rfl⟩⟩; refine ⟨_, rfl, ?_⟩))
  go_ret
  exact ⟨fz_, dr_⟩
 replace c5 := Bool.eq_false_iff.mpr c5
 subst c5
 have H1 : (if t116 = true then (some 1) else (if (Op.bytesLess a0.toList a1.toList) = true then (some (-1)) else (if (Op.bytesLess a1.toList a0.toList) = true then (some 1) else (some 0)))) = some r := by rw [if_neg (show ¬ (false = true) by decide)] at H; exact H
 clear H
 have H := H1
 clear H1
 by_cases c7 : t116 = true
 ·subst c7
  have H1 : (some 1) = some r := by rw [if_pos rfl] at H; exact H
  clear H
  have H := H1
  clear H1
  obtain rfl := Option.some.inj H
  go_enter Try.func81, Try.ntmps81
  go_wp2_with (first | ((with_reducible refine gk_ 103 ?_); refine gl_ (some 8) Try.func103 #[.string a0] ?_; (with_reducible refine (cmp_isNaN_string.calls a0 false _ A3.out).mono ?_); rintro e w' ⟨rfl, ⟨nd, rfl⟩⟩; refine ⟨_, rfl, ?_⟩) | ((with_reducible refine gk_ 103 ?_); refine gl_ (some 10) Try.func103 #[.string a1] ?_; (with_reducible refine (cmp_isNaN_string.calls a1 true _ A4.out).mono ?_); rintro e w' ⟨rfl, ⟨nd, rfl⟩⟩; refine ⟨_, rfl, ?_⟩))
  go_ret
  exact ⟨fz_, dr_⟩
 replace c7 := Bool.eq_false_iff.mpr c7
 subst c7
 have H1 : (if (Op.bytesLess a0.toList a1.toList) = true then (some (-1)) else (if (Op.bytesLess a1.toList a0.toList) = true then (some 1) else (some 0))) = some r := by rw [if_neg (show ¬ (false = true) by decide)] at H; exact H
 clear H
 have H := H1
 clear H1
 by_cases c8 : (Op.bytesLess a0.toList a1.toList) = true
 ·rw [if_pos c8] at H
  have c8b0 : (Op.bytesLess a0.toList a1.toList) = true := c8
  clear c8
  obtain rfl := Option.some.inj H
  go_enter Try.func81, Try.ntmps81
  go_wp2_with (first | ((with_reducible refine gk_ 103 ?_); refine gl_ (some 8) Try.func103 #[.string a0] ?_; (with_reducible refine (cmp_isNaN_string.calls a0 false _ A3.out).mono ?_); rintro e w' ⟨rfl, ⟨nd, rfl⟩⟩; refine ⟨_, rfl, ?_⟩) | ((with_reducible refine gk_ 103 ?_); refine gl_ (some 10) Try.func103 #[.string a1] ?_; (with_reducible refine (cmp_isNaN_string.calls a1 false _ A4.out).mono ?_); rintro e w' ⟨rfl, ⟨nd, rfl⟩⟩; refine ⟨_, rfl, ?_⟩))
  go_ret
  exact ⟨fz_, dr_⟩
 rw [if_neg c8] at H
 have c8b0 : (Op.bytesLess a0.toList a1.toList) = false := by simpa using c8
 clear c8
 by_cases c9 : (Op.bytesLess a1.toList a0.toList) = true
 ·rw [if_pos c9] at H
  have c9b0 : (Op.bytesLess a1.toList a0.toList) = true := c9
  clear c9
  obtain rfl := Option.some.inj H
  go_enter Try.func81, Try.ntmps81
  go_wp2_with (first | ((with_reducible refine gk_ 103 ?_); refine gl_ (some 8) Try.func103 #[.string a0] ?_; (with_reducible refine (cmp_isNaN_string.calls a0 false _ A3.out).mono ?_); rintro e w' ⟨rfl, ⟨nd, rfl⟩⟩; refine ⟨_, rfl, ?_⟩) | ((with_reducible refine gk_ 103 ?_); refine gl_ (some 10) Try.func103 #[.string a1] ?_; (with_reducible refine (cmp_isNaN_string.calls a1 false _ A4.out).mono ?_); rintro e w' ⟨rfl, ⟨nd, rfl⟩⟩; refine ⟨_, rfl, ?_⟩))
  go_ret
  exact ⟨fz_, dr_⟩
 rw [if_neg c9] at H
 have c9b0 : (Op.bytesLess a1.toList a0.toList) = false := by simpa using c9
 clear c9
 obtain rfl := Option.some.inj H
 go_enter Try.func81, Try.ntmps81
 go_wp2_with (first | ((with_reducible refine gk_ 103 ?_); refine gl_ (some 8) Try.func103 #[.string a0] ?_; (with_reducible refine (cmp_isNaN_string.calls a0 false _ A3.out).mono ?_); rintro e w' ⟨rfl, ⟨nd, rfl⟩⟩; refine ⟨_, rfl, ?_⟩) | ((with_reducible refine gk_ 103 ?_); refine gl_ (some 10) Try.func103 #[.string a1] ?_; (with_reducible refine (cmp_isNaN_string.calls a1 false _ A4.out).mono ?_); rintro e w' ⟨rfl, ⟨nd, rfl⟩⟩; refine ⟨_, rfl, ?_⟩))
 go_ret
 exact ⟨fz_, dr_⟩

def disk_place_1.f (a0_0 : ByteArray) (a0_1 : ByteArray) (a0_2 : Int) (a1 : ByteArray) : Option (Int) := (cmp_Compare_string.f a0_0 a1).bind fun t118 => (some t118)
theorem disk_place_1.calls (a0_0 : ByteArray) (a0_1 : ByteArray) (a0_2 : Int) (a1 : ByteArray) (r : Int) (w : World) (h : disk_place_1.f a0_0 a0_1 a0_2 a1 = some r) :
  Calls Try.prog 80 #[.agg #[.string a0_0, .string a0_1, .int .i64 a0_2], .string a1] w fun e w' => e = .returned (.int .i64 r) ∧ Below w.heap.size w w' := by
 have hu71 := Try.underlying71
 have HB := a_ (Below.refl w.heap.size w)
 have H : ((cmp_Compare_string.f a0_0 a1).bind fun t118 => (some t118)) = some r := h
 clear h
 obtain ⟨t118, A30, H⟩ := Option.bind_eq_some_iff.mp H
 try dsimp only at H
 have A3 := a_ A30
 clear A30
 obtain rfl := Option.some.inj H
 go_enter Try.func80, Try.ntmps80
 go_wp2_with (first | ((with_reducible refine gd_ 2 ?_); refine bx_ 2 #[.string a0_0, .string a0_1, .int .i64 a0_2] 71 ?_; intro gb117 hg w4 hbox hb; have BK117 := a_ (hbox); have GE117 := a_ (bs_0 hg HB); replace HB := hB_ (bl_ HB) hb; clear hb hbox hg; obtain ⟨hcz5_0, hcz5_1, hcz5_2, hfz5_0, hfz5_1, hfz5_2⟩ := c3_ BK117) | ((with_reducible refine gk_ 81 ?_); refine gl_ (some 8) Try.func81 #[.string a0_0, .string a1] ?_; (with_reducible refine (cmp_Compare_string.calls a0_0 a1 t118 _ A3.out).mono ?_); rintro e w' ⟨rfl, ⟨nd, rfl⟩⟩; refine ⟨_, rfl, ?_⟩))
 go_ret
 exact ⟨fz_, bl_1 HB GE117⟩

def api_File_string.l0 : Nat → List (S71) → ByteArray → Int → Int → Int → Option (Int × Bool)
 | 0, _, _, _, _, _ => none
 | k + 1, x0, x1, x8, x9, x10 => if x9 < x10 then (if 0 ≤ (wrap64 ((IntKind.u64.wrap (wrap64 (x9 + x10))) / 2)) then (if (wrap64 ((IntKind.u64.wrap (wrap64 (x9 + x10))) / 2)) < (x0.length : Int) then ((disk_place_1.f ((rd_T71 x0 (wrap64 ((IntKind.u64.wrap (wrap64 (x9 + x10))) / 2))).f0) ((rd_T71 x0 (wrap64 ((IntKind.u64.wrap (wrap64 (x9 + x10))) / 2))).f1) ((rd_T71 x0 (wrap64 ((IntKind.u64.wrap (wrap64 (x9 + x10))) / 2))).f2) x1).bind fun t120 => (if t120 < 0 then (api_File_string.l0 k x0 x1 x8 (wrap64 ((wrap64 ((IntKind.u64.wrap (wrap64 (x9 + x10))) / 2)) + 1)) x10) else (api_File_string.l0 k x0 x1 x8 x9 (wrap64 ((IntKind.u64.wrap (wrap64 (x9 + x10))) / 2))))) else (none)) else (none)) else (if x9 < x8 then (if 0 ≤ x9 then (if x9 < (x0.length : Int) then ((disk_place_1.f ((rd_T71 x0 x9).f0) ((rd_T71 x0 x9).f1) ((rd_T71 x0 x9).f2) x1).bind fun t122 => (some (x9, (t122 == 0)))) else (none)) else (none)) else (some (x9, false)))
def api_File_string.f (k : Nat) (l0 : List (S71)) (a1 : ByteArray)  : Option (Int × Bool) := api_File_string.l0 k l0 a1 (l0.length : Int) 0 (l0.length : Int)
theorem api_File_string.mono_l : ∀ k, (∀ y0 y1 y2 y3 y4, LeO (api_File_string.l0 k y0 y1 y2 y3 y4) (api_File_string.l0 (k + 1) y0 y1 y2 y3 y4))
 | 0 => fun _ _ _ _ _ r h => by simp [api_File_string.l0] at h
 | k + 1 => by
  have ih0 := api_File_string.mono_l k
  ·intro y0 y1 y2 y3 y4
   unfold api_File_string.l0
   repeat' with_reducible first | apply ih0 | apply LeO.refl | apply LeO.none | apply LeO.ite | refine LeO.bind ?_ (fun _ => ?_)
theorem api_File_string.mono : ∀ a0 a1 k, LeO (api_File_string.f k a0 a1) (api_File_string.f (k + 1) a0 a1) := by
 intro a0 a1 k
 have ih0 := api_File_string.mono_l k
 unfold api_File_string.f
 repeat' with_reducible first | apply ih0 | apply LeO.refl | apply LeO.none | apply LeO.ite | refine LeO.bind ?_ (fun _ => ?_)
theorem api_File_string.calls (k : Nat) (A0 : Option Addr) (c0 : Nat) (l0 : List (S71)) (a1 : ByteArray)  (r1 : Int) (r2 : Bool) (w : World) (hr0 : Kd.C k71 w A0 l0.length l0) (hc0 : l0.length ≤ c0) (h : api_File_string.f k l0 a1 = some (r1, r2)) :
  Calls Try.prog 79 #[.slice A0 l0.length c0, .string a1, (.func (.func 80) #[] #[])] w fun e w' => e = .returned (.tuple #[.int .i64 r1, .bool r2]) ∧ Below w.heap.size w w' := by
 have hu71 := Try.underlying71
 have HR0 := a_ hr0
 have HC0 := a_ hc0
 clear hr0 hc0
 have HB := a_ (Below.refl w.heap.size w)
 have H : (api_File_string.l0 k l0 a1 (l0.length : Int) 0 (l0.length : Int)) = some (r1, r2) := h
 clear h
 have H' := a_ H
 clear H
 go_enter Try.func79, Try.ntmps79
 go_wp2
 go_loopg [9, 10] k (fun kq v9 v10 w' => ∃ (x9_1 : Int) (x10_1 : Int), v9 = .int .i64 x9_1 ∧ v10 = .int .i64 x10_1 ∧ Aside0 (api_File_string.l0 kq l0 a1 (l0.length : Int) x9_1 x10_1 = some (r1, r2)) ∧ Aside0 (kq ≤ k) ∧ Aside0 (Below w.heap.size w w'))
 case atStart => exact ⟨(0), ((l0.length : Int)), fz_, fz_, H', ⟨Nat.le_refl _⟩, ⟨bl_ HB⟩⟩
 case round =>
  clear H'
  try clear p2
  obtain ⟨x9_1, x10_1, rfl, rfl, HA, HK1, HB⟩ := hrel
  cases gk with
  | zero => exact absurd HA.out (by simp [api_File_string.l0])
  | succ k1 =>
   have H := HA.out
   clear HA
   simp only [api_File_string.l0] at H
   by_cases c4 : x9_1 < x10_1
   rotate_left
   ·rw [if_neg c4] at H
    have c4b0 : decide (x9_1 < x10_1) = false := decide_eq_false c4
    clear c4
    by_cases c12 : x9_1 < (l0.length : Int)
    rotate_left
    ·rw [if_neg c12] at H
     have c12b0 : decide (x9_1 < (l0.length : Int)) = false := decide_eq_false c12
     clear c12
     simp only [Option.some.injEq, Prod.mk.injEq] at H
     obtain ⟨rfl, rfl⟩ := H
     go_wp2
     go_ret2
     exact ⟨fz_, bl_ HB⟩


    rw [if_pos c12] at H
    have c12b0 : decide (x9_1 < (l0.length : Int)) = true := decide_eq_true c12
    clear c12
    by_cases c13 : 0 ≤ x9_1
    rotate_left
    ·rw [if_neg c13] at H
     exact absurd H (by simp)
    rw [if_pos c13] at H
    have c13b0 : decide (0 ≤ x9_1) = true := decide_eq_true c13
    clear c13
    by_cases c14 : x9_1 < (l0.length : Int)
    rotate_left
    ·rw [if_neg c14] at H
     exact absurd H (by simp)
    rw [if_pos c14] at H
    have c14b0 : decide (x9_1 < (l0.length : Int)) = true := decide_eq_true c14
    clear c14
    obtain ⟨t122, A150, H⟩ := Option.bind_eq_some_iff.mp H
    try dsimp only at H
    have A15 := a_ A150
    clear A150
    simp only [Option.some.injEq, Prod.mk.injEq] at H
    obtain ⟨rfl, rfl⟩ := H
    have p121 : 0 ≤ (x9_1 : Int) := od_
    have q121 : x9_1 < (l0.length : Int) := od_
    obtain ⟨ad121, e121, hx121_0, hx121_1, hx121_2⟩ := at_T71 HR0.out x9_1 p121 q121
    cases e121
    replace hx121_0 := hc_ HB hx121_0
    replace hx121_1 := hc_ HB hx121_1
    replace hx121_2 := hc_ HB hx121_2
    replace p121 := eq_true p121
    replace q121 := eq_true q121
    go_wp2_with (first | (go_at_call 80; (with_reducible refine (disk_place_1.calls ((rd_T71 l0 x9_1).f0) ((rd_T71 l0 x9_1).f1) ((rd_T71 l0 x9_1).f2) a1 t122 _ A15.out).mono ?_); rintro e w16 ⟨rfl, hb⟩; replace HB := hB_ (bl_ HB) hb; (try clear hb)))
    go_ret2
    exact ⟨fz_, bl_ HB⟩
   rw [if_pos c4] at H
   have c4b0 : decide (x9_1 < x10_1) = true := decide_eq_true c4
   clear c4
   obtain ⟨ji5, hji5⟩ : ∃ j_ : Int, (wrap64 ((IntKind.u64.wrap (wrap64 (x9_1 + x10_1))) / 2)) = j_ := ⟨_, rfl⟩
   replace H : (if 0 ≤ (ji5) then (if (ji5) < (l0.length : Int) then ((disk_place_1.f ((rd_T71 l0 (ji5)).f0) ((rd_T71 l0 (ji5)).f1) ((rd_T71 l0 (ji5)).f2) a1).bind fun t120 => (if t120 < 0 then (api_File_string.l0 k1 l0 a1 (l0.length : Int) (wrap64 ((ji5) + 1)) x10_1) else (api_File_string.l0 k1 l0 a1 (l0.length : Int) x9_1 ji5))) else (none)) else (none)) = some (r1, r2) := by first | (rw [hji5] at H; exact H) | (simp only [hji5] at H ⊢; exact H)
   have hji5w : (IntKind.i64.wrap ((IntKind.u64.wrap (wrap64 (x9_1 + x10_1))) / 2)) = ji5 := (i64_w _).trans hji5
   by_cases c6 : 0 ≤ (ji5)
   rotate_left
   ·rw [if_neg c6] at H
    exact absurd H (by simp)
   rw [if_pos c6] at H
   have c6b0 : decide (0 ≤ (ji5)) = true := decide_eq_true c6
   clear c6
   by_cases c7 : (ji5) < (l0.length : Int)
   rotate_left
   ·rw [if_neg c7] at H
    exact absurd H (by simp)
   rw [if_pos c7] at H
   have c7b0 : decide ((ji5) < (l0.length : Int)) = true := decide_eq_true c7
   clear c7
   obtain ⟨t120, A80, H⟩ := Option.bind_eq_some_iff.mp H
   try dsimp only at H
   have A8 := a_ A80
   clear A80
   by_cases c9 : t120 < 0
   rotate_left
   ·rw [if_neg c9] at H
    have c9b0 : decide (t120 < 0) = false := decide_eq_false c9
    clear c9
    have H' := a_ H
    clear H
    have p119 : 0 ≤ ((ji5) : Int) := od_
    have q119 : (ji5) < (l0.length : Int) := od_
    obtain ⟨ad119, e119, hx119_0, hx119_1, hx119_2⟩ := at_T71 HR0.out (ji5) p119 q119
    cases e119
    replace hx119_0 := hc_ HB hx119_0
    replace hx119_1 := hc_ HB hx119_1
    replace hx119_2 := hc_ HB hx119_2
    replace p119 := eq_true p119
    replace q119 := eq_true q119
    go_wp2_with (first | (go_at_call 80; (with_reducible refine (disk_place_1.calls ((rd_T71 l0 (ji5)).f0) ((rd_T71 l0 (ji5)).f1) ((rd_T71 l0 (ji5)).f2) a1 t120 _ A8.out).mono ?_); rintro e w11 ⟨rfl, hb⟩; replace HB := hB_ (bl_ HB) hb; (try clear hb)))
    go_roundg k1
    case measure => have := HK1.out; omega
    case rel => exact ⟨(x9_1), (ji5), fz_, (by first | rfl | (simp; done) | (simp only [← hji5] <;> (first | rfl | simp)) | (simp [*]; done)), H', ⟨by have := HK1.out; omega⟩, ⟨bl_ HB⟩⟩
   rw [if_pos c9] at H
   have c9b0 : decide (t120 < 0) = true := decide_eq_true c9
   clear c9
   have H' := a_ H
   clear H
   have p119 : 0 ≤ ((ji5) : Int) := od_
   have q119 : (ji5) < (l0.length : Int) := od_
   obtain ⟨ad119, e119, hx119_0, hx119_1, hx119_2⟩ := at_T71 HR0.out (ji5) p119 q119
   cases e119
   replace hx119_0 := hc_ HB hx119_0
   replace hx119_1 := hc_ HB hx119_1
   replace hx119_2 := hc_ HB hx119_2
   replace p119 := eq_true p119
   replace q119 := eq_true q119
   go_wp2_with (first | (go_at_call 80; (with_reducible refine (disk_place_1.calls ((rd_T71 l0 (ji5)).f0) ((rd_T71 l0 (ji5)).f1) ((rd_T71 l0 (ji5)).f2) a1 t120 _ A8.out).mono ?_); rintro e w10 ⟨rfl, hb⟩; replace HB := hB_ (bl_ HB) hb; (try clear hb)))
   go_roundg k1
   case measure => have := HK1.out; omega
   case rel => exact ⟨(wrap64 ((ji5) + 1)), (x10_1), (by first | rfl | (simp; done) | (simp only [← hji5] <;> (first | rfl | simp)) | (simp [*]; done)), fz_, H', ⟨by have := HK1.out; omega⟩, ⟨bl_ HB⟩⟩
/-! ### disk_place: function 50 -/
def disk_place.f (k : Nat) (l0_0 : List (S71)) (a0_1 : Bool) (a0_2 : Int) (a1 : ByteArray) : Option (Int × Bool) := (api_File_string.f k l0_0 a1).bind fun bt124 => (some (bt124.1, bt124.2))
theorem disk_place.mono : ∀ a0 a1 a2 a3 k, LeO (disk_place.f k a0 a1 a2 a3) (disk_place.f (k + 1) a0 a1 a2 a3) := by
 intro a0 a1 a2 a3 k
 unfold disk_place.f
 repeat' with_reducible first | apply api_File_string.mono | apply LeO.refl | apply LeO.none | apply LeO.ite | refine LeO.bind ?_ (fun _ => ?_)
theorem disk_place.calls (k : Nat) (A0_0 : Option Addr) (c0_0 : Nat) (l0_0 : List (S71)) (a0_1 : Bool) (a0_2 : Int) (a1 : ByteArray) (r1 : Int) (r2 : Bool) (w : World) (hr0_0 : Kd.C k71 w A0_0 l0_0.length l0_0) (hc0_0 : l0_0.length ≤ c0_0) (h : disk_place.f k l0_0 a0_1 a0_2 a1 = some (r1, r2)) :
  Calls Try.prog 50 #[.agg #[.slice A0_0 l0_0.length c0_0, .bool a0_1, .int .i64 a0_2], .string a1] w fun e w' => e = .returned (.tuple #[.int .i64 r1, .bool r2]) ∧ Below w.heap.size w w' := by
 have hu24 := Try.underlying24
 have HR0_0 := a_ hr0_0
 have HC0_0 := a_ hc0_0
 clear hr0_0 hc0_0
 have HB := a_ (Below.refl w.heap.size w)
 have H : ((api_File_string.f k l0_0 a1).bind fun bt124 => (some (bt124.1, bt124.2))) = some (r1, r2) := h
 clear h
 obtain ⟨⟨t124, t125⟩, A30, H⟩ := Option.bind_eq_some_iff.mp H
 try dsimp only at H
 have A3 := a_ A30
 clear A30
 simp only [Option.some.injEq, Prod.mk.injEq] at H
 obtain ⟨rfl, rfl⟩ := H
 go_enter Try.func50, Try.ntmps50
 go_wp2_with (first | ((with_reducible refine gd_ 2 ?_); refine bx_ 2 #[.slice A0_0 l0_0.length c0_0, .bool a0_1, .int .i64 a0_2] 24 ?_; intro gb123 hg w4 hbox hb; have BK123 := a_ (hbox); have GE123 := a_ (bs_0 hg HB); replace HB := hB_ (bl_ HB) hb; clear hb hbox hg; obtain ⟨hcz5_0, hcz5_1, hcz5_2, hfz5_0, hfz5_1, hfz5_2⟩ := c3_ BK123) | ((with_reducible refine gk_ 79 ?_); refine gl_ (some 9) Try.func79 #[.slice A0_0 l0_0.length c0_0, .string a1, (.func (.func 80) #[] #[])] ?_; (with_reducible refine (api_File_string.calls k _ _ l0_0 a1  t124 t125 _ ?side1 ?side2 A3.out).mono ?_); (case side1 => exact cl_ (Kd.C_below HR0_0.out HB.out)); (case side2 => exact HC0_0.out); rintro e w6 ⟨rfl, hb⟩; refine ⟨_, rfl, ?_⟩; replace BK123 := bB_ BK123 hb; replace HB := hB_ (bl_1 HB GE123) hb; (try clear hb)))
 go_ret2
 exact ⟨fz_, bl_1 HB GE123⟩

def disk_Read.f (k : Nat) (l0_0 : List (S71)) (a0_1 : Bool) (a0_2 : Int) (a1 : ByteArray) : Option (ByteArray × Int) := (disk_asked.f k l0_0 a0_1 a0_2).bind fun t127 => (if t127 = 0 then ((disk_place.f k l0_0 a0_1 a0_2 a1).bind fun bt128 => (if bt128.2 = true then (if 0 ≤ bt128.1 then (if bt128.1 < (l0_0.length : Int) then (some ((rd_T71 l0_0 bt128.1).f1, 0)) else (none)) else (none)) else (some ((⟨#[]⟩ : ByteArray), 6)))) else (some ((⟨#[]⟩ : ByteArray), t127)))
theorem disk_Read.mono : ∀ a0 a1 a2 a3 k, LeO (disk_Read.f k a0 a1 a2 a3) (disk_Read.f (k + 1) a0 a1 a2 a3) := by
 intro a0 a1 a2 a3 k
 unfold disk_Read.f
 repeat' with_reducible first | apply disk_asked.mono | apply disk_place.mono | apply LeO.refl | apply LeO.none | apply LeO.ite | refine LeO.bind ?_ (fun _ => ?_)
theorem disk_Read.calls (k : Nat) (A0_0 : Option Addr) (c0_0 : Nat) (l0_0 : List (S71)) (a0_1 : Bool) (a0_2 : Int) (a1 : ByteArray) (r1 : ByteArray) (r2 : Int) (w : World) (hr0_0 : Kd.C k71 w A0_0 l0_0.length l0_0) (hc0_0 : l0_0.length ≤ c0_0) (h : disk_Read.f k l0_0 a0_1 a0_2 a1 = some (r1, r2)) :
  Calls Try.prog 24 #[.agg #[.slice A0_0 l0_0.length c0_0, .bool a0_1, .int .i64 a0_2], .string a1] w fun e w' => e = .returned (.tuple #[.string r1, .int .i64 r2]) ∧ Below w.heap.size w w' := by
 have hu24 := Try.underlying24
 have HR0_0 := a_ hr0_0
 have HC0_0 := a_ hc0_0
 clear hr0_0 hc0_0
 have HB := a_ (Below.refl w.heap.size w)
 have H : ((disk_asked.f k l0_0 a0_1 a0_2).bind fun t127 => (if t127 = 0 then ((disk_place.f k l0_0 a0_1 a0_2 a1).bind fun bt128 => (if bt128.2 = true then (if 0 ≤ bt128.1 then (if bt128.1 < (l0_0.length : Int) then (some ((rd_T71 l0_0 bt128.1).f1, 0)) else (none)) else (none)) else (some ((⟨#[]⟩ : ByteArray), 6)))) else (some ((⟨#[]⟩ : ByteArray), t127)))) = some (r1, r2) := h
 clear h
 obtain ⟨t127, A30, H⟩ := Option.bind_eq_some_iff.mp H
 try dsimp only at H
 have A3 := a_ A30
 clear A30
 by_cases c4 : t127 = 0
 rotate_left
 ·rw [if_neg c4] at H
  have c4b0 : (t127 == 0) = false := beq_eq_false_iff_ne.mpr c4
  have c4b1 : (t127 != 0) = true := bne_iff_ne.mpr c4
  simp only [Option.some.injEq, Prod.mk.injEq] at H
  obtain ⟨rfl, rfl⟩ := H
  go_enter Try.func24, Try.ntmps24
  go_wp2_with (first | ((with_reducible refine gd_ 2 ?_); refine bx_ 2 #[.slice A0_0 l0_0.length c0_0, .bool a0_1, .int .i64 a0_2] 24 ?_; intro gb126 hg w20 hbox hb; have BK126 := a_ (hbox); have GE126 := a_ (bs_0 hg HB); replace HB := hB_ (bl_ HB) hb; clear hb hbox hg; obtain ⟨hcz21_0, hcz21_1, hcz21_2, hfz21_0, hfz21_1, hfz21_2⟩ := c3_ BK126) | ((with_reducible refine gk_ 49 ?_); refine gl_ (some 10) Try.func49 #[.agg #[.slice A0_0 l0_0.length c0_0, .bool a0_1, .int .i64 a0_2]] ?_; (with_reducible refine (disk_asked.calls k _ _ l0_0 a0_1 a0_2 t127 _ ?side1 ?side2 A3.out).mono ?_); (case side1 => exact cl_ (Kd.C_below HR0_0.out HB.out)); (case side2 => exact HC0_0.out); rintro e w22 ⟨rfl, hb⟩; refine ⟨_, rfl, ?_⟩; replace BK126 := bB_ BK126 hb; replace HB := hB_ (bl_1 HB GE126) hb; (try clear hb)))
  go_ret2
  exact ⟨fz_, bl_1 HB GE126⟩


 rw [if_pos c4] at H
 have c4b0 : (t127 == 0) = true := beq_iff_eq.mpr c4
 have c4b1 : (t127 != 0) = false := bne_eq_false_iff_eq.mpr c4
 clear c4
 obtain ⟨⟨t128, t129⟩, A50, H⟩ := Option.bind_eq_some_iff.mp H
 try dsimp only at H
 have A5 := a_ A50
 clear A50
 by_cases c6 : t129 = true
 rotate_left
 ·replace c6 := Bool.eq_false_iff.mpr c6
  subst c6
  have H1 : (some ((⟨#[]⟩ : ByteArray), 6)) = some (r1, r2) := by rw [if_neg (show ¬ (false = true) by decide)] at H; exact H
  clear H
  have H := H1
  clear H1
  simp only [Option.some.injEq, Prod.mk.injEq] at H
  obtain ⟨rfl, rfl⟩ := H
  go_enter Try.func24, Try.ntmps24
  go_wp2_with (first | ((with_reducible refine gd_ 2 ?_); refine bx_ 2 #[.slice A0_0 l0_0.length c0_0, .bool a0_1, .int .i64 a0_2] 24 ?_; intro gb126 hg w15 hbox hb; have BK126 := a_ (hbox); have GE126 := a_ (bs_0 hg HB); replace HB := hB_ (bl_ HB) hb; clear hb hbox hg; obtain ⟨hcz16_0, hcz16_1, hcz16_2, hfz16_0, hfz16_1, hfz16_2⟩ := c3_ BK126) | ((with_reducible refine gk_ 49 ?_); refine gl_ (some 10) Try.func49 #[.agg #[.slice A0_0 l0_0.length c0_0, .bool a0_1, .int .i64 a0_2]] ?_; (with_reducible refine (disk_asked.calls k _ _ l0_0 a0_1 a0_2 t127 _ ?side1 ?side2 A3.out).mono ?_); (case side1 => exact cl_ (Kd.C_below HR0_0.out HB.out)); (case side2 => exact HC0_0.out); rintro e w17 ⟨rfl, hb⟩; refine ⟨_, rfl, ?_⟩; replace BK126 := bB_ BK126 hb; replace HB := hB_ (bl_1 HB GE126) hb; (try clear hb); obtain ⟨hcz18_0, hcz18_1, hcz18_2, hfz18_0, hfz18_1, hfz18_2⟩ := c3_ BK126) | ((with_reducible refine gk_ 50 ?_); refine gl_ (some 17) Try.func50 #[.agg #[.slice A0_0 l0_0.length c0_0, .bool a0_1, .int .i64 a0_2], .string a1] ?_; (with_reducible refine (disk_place.calls k _ _ l0_0 a0_1 a0_2 a1 t128 false _ ?side1 ?side2 A5.out).mono ?_); (case side1 => exact cl_ (Kd.C_below HR0_0.out HB.out)); (case side2 => exact HC0_0.out); rintro e w19 ⟨rfl, hb⟩; refine ⟨_, rfl, ?_⟩; replace BK126 := bB_ BK126 hb; replace HB := hB_ (bl_1 HB GE126) hb; (try clear hb)))
  go_ret2
  exact ⟨fz_, bl_1 HB GE126⟩
 subst c6
 have H1 : (if 0 ≤ t128 then (if t128 < (l0_0.length : Int) then (some ((rd_T71 l0_0 t128).f1, 0)) else (none)) else (none)) = some (r1, r2) := by rw [if_pos rfl] at H; exact H
 clear H
 have H := H1
 clear H1
 by_cases c7 : 0 ≤ t128
 rotate_left
 ·rw [if_neg c7] at H
  exact absurd H (by simp)
 rw [if_pos c7] at H
 have c7b0 : decide (0 ≤ t128) = true := decide_eq_true c7
 clear c7
 by_cases c8 : t128 < (l0_0.length : Int)
 rotate_left
 ·rw [if_neg c8] at H
  exact absurd H (by simp)
 rw [if_pos c8] at H
 have c8b0 : decide (t128 < (l0_0.length : Int)) = true := decide_eq_true c8
 clear c8
 simp only [Option.some.injEq, Prod.mk.injEq] at H
 obtain ⟨rfl, rfl⟩ := H
 go_enter Try.func24, Try.ntmps24
 go_wp2_with (first | ((with_reducible refine gd_ 2 ?_); refine bx_ 2 #[.slice A0_0 l0_0.length c0_0, .bool a0_1, .int .i64 a0_2] 24 ?_; intro gb126 hg w9 hbox hb; have BK126 := a_ (hbox); have GE126 := a_ (bs_0 hg HB); replace HB := hB_ (bl_ HB) hb; clear hb hbox hg; obtain ⟨hcz10_0, hcz10_1, hcz10_2, hfz10_0, hfz10_1, hfz10_2⟩ := c3_ BK126) | ((with_reducible refine gk_ 49 ?_); refine gl_ (some 10) Try.func49 #[.agg #[.slice A0_0 l0_0.length c0_0, .bool a0_1, .int .i64 a0_2]] ?_; (with_reducible refine (disk_asked.calls k _ _ l0_0 a0_1 a0_2 t127 _ ?side1 ?side2 A3.out).mono ?_); (case side1 => exact cl_ (Kd.C_below HR0_0.out HB.out)); (case side2 => exact HC0_0.out); rintro e w11 ⟨rfl, hb⟩; refine ⟨_, rfl, ?_⟩; replace BK126 := bB_ BK126 hb; replace HB := hB_ (bl_1 HB GE126) hb; (try clear hb); obtain ⟨hcz12_0, hcz12_1, hcz12_2, hfz12_0, hfz12_1, hfz12_2⟩ := c3_ BK126) | ((with_reducible refine gk_ 50 ?_); refine gl_ (some 17) Try.func50 #[.agg #[.slice A0_0 l0_0.length c0_0, .bool a0_1, .int .i64 a0_2], .string a1] ?_; (with_reducible refine (disk_place.calls k _ _ l0_0 a0_1 a0_2 a1 t128 true _ ?side1 ?side2 A5.out).mono ?_); (case side1 => exact cl_ (Kd.C_below HR0_0.out HB.out)); (case side2 => exact HC0_0.out); rintro e w13 ⟨rfl, hb⟩; refine ⟨_, rfl, ?_⟩; replace BK126 := bB_ BK126 hb; replace HB := hB_ (bl_1 HB GE126) hb; (try clear hb); obtain ⟨hcz14_0, hcz14_1, hcz14_2, hfz14_0, hfz14_1, hfz14_2⟩ := c3_ BK126; have p130 : 0 ≤ (t128 : Int) := od_; have q130 : t128 < (l0_0.length : Int) := od_; obtain ⟨ad130, e130, hx130_0, hx130_1, hx130_2⟩ := at_T71 HR0_0.out t128 p130 q130; cases e130; replace hx130_0 := (HB.out.cell (World.block_lt_of_cell? w _ hx130_0)).trans hx130_0; replace hx130_1 := (HB.out.cell (World.block_lt_of_cell? w _ hx130_1)).trans hx130_1; replace hx130_2 := (HB.out.cell (World.block_lt_of_cell? w _ hx130_2)).trans hx130_2; replace p130 := eq_true p130; replace q130 := eq_true q130))
 go_ret2
 exact ⟨fz_, bl_1 HB GE126⟩end Go.Proofs.Ytpigjmjbfpipnaa.PD
