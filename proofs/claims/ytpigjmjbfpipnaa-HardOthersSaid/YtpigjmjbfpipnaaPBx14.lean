-- Written for this claim by a program of this session. Lean checks it.
import Derived.Test.YtpigjmjbfpipnaaPBx0
import Derived.Test.YtpigjmjbfpipnaaPBx1
import Derived.Test.YtpigjmjbfpipnaaPBx3
import Derived.Test.YtpigjmjbfpipnaaPBx6
import Derived.Test.YtpigjmjbfpipnaaPBx10
import Derived.Test.YtpigjmjbfpipnaaPBx12
namespace Go.Proofs.Ytpigjmjbfpipnaa.PB
open Go.RowKit Go.Proofs.YtpigjmjbfpipnaaW.PrintWords Go.Proofs.YtpigjmjbfpipnaaW.PrintLast Go.Proofs.YtpigjmjbfpipnaaW.PrintMore Go.Proofs.Ytpigjmjbfpipnaa.Sh Go.Proofs.Ytpigjmjbfpipnaa.Op
attribute [local go_sem] max2_int min2_int max_two min_two max_three min_three max_four min_four   -- for this text's walks alone
set_option linter.unusedVariables false
set_option linter.unusedSimpArgs false

attribute [local go_sem high] eqA27
/-! ### gafferlaw04_HardOthers: function 5 -/
def gafferlaw04_HardOthers.l0 : Nat → ByteArray → ByteArray → Int → List (S27) → Int → Int → List (S71) → Bool → Int → Option (Bool)
 | 0, _, _, _, _, _, _, _, _, _ => none
 | k + 1, x2, x7, x8, x25, x26, x27, x400000, x400001, x400002 => if x27 < x26 then (if 0 ≤ x27 then (if x27 < (x25.length : Int) then (if x27 = 20 then ((disk_Read.f k x400000 x400001 x400002 x2).bind fun bt407 => (if x2.toList = ([104, 97, 114, 100] : List UInt8) then (some true) else (if x2.toList = ([104, 97, 114, 100, 46, 116, 109, 112] : List UInt8) then (some true) else (if x7.toList = bt407.1.toList then (some (x8 == bt407.2)) else (some false))))) else ((hard_Save.f k x400000 x400001 x400002 ((rd_T27 x25 x27).f0) ((rd_T27 x25 x27).f1)).bind fun bt409 => (if bt409.2.2.2 = 0 then ((hard_Load.f k bt409.1 bt409.2.1 bt409.2.2.1).bind fun bt416 => (if bt416.2.2 = 0 then (if (!(bt416.1 == ((rd_T27 x25 x27).f0)) || (!(bt416.2.1 == ((rd_T27 x25 x27).f1)))) = true then (some false) else (gafferlaw04_HardOthers.l0 k x2 x7 x8 x25 x26 (wrap64 (x27 + 1)) bt409.1 bt409.2.1 bt409.2.2.1)) else (some false))) else (gafferlaw04_HardOthers.l0 k x2 x7 x8 x25 x26 (wrap64 (x27 + 1)) x400000 x400001 x400002)))) else (none)) else (none)) else ((disk_Read.f k x400000 x400001 x400002 x2).bind fun bt403 => (if x2.toList = ([104, 97, 114, 100] : List UInt8) then (some true) else (if x2.toList = ([104, 97, 114, 100, 46, 116, 109, 112] : List UInt8) then (some true) else (if x7.toList = bt403.1.toList then (some (x8 == bt403.2)) else (some false)))))
def gafferlaw04_HardOthers.f (k : Nat) (l0_0 : List (S71)) (a0_1 : Bool) (a0_2 : Int) (l1 : List (S27)) (a2 : ByteArray) : Option (Bool) := (gafferlaw04_lives.f k).bind fun t400 => (if t400 = true then ((disk_Read.f k l0_0 a0_1 a0_2 a2).bind fun bt401 => (gafferlaw04_HardOthers.l0 k a2 bt401.1 bt401.2 l1 (l1.length : Int) 0 l0_0 a0_1 a0_2)) else (some false))
theorem gafferlaw04_HardOthers.mono_l : ∀ k, (∀ y0 y1 y2 y3 y4 y5 y6 y7 y8, LeO (gafferlaw04_HardOthers.l0 k y0 y1 y2 y3 y4 y5 y6 y7 y8) (gafferlaw04_HardOthers.l0 (k + 1) y0 y1 y2 y3 y4 y5 y6 y7 y8))
 | 0 => fun _ _ _ _ _ _ _ _ _ r h => by simp [gafferlaw04_HardOthers.l0] at h
 | k + 1 => by
  have ih0 := gafferlaw04_HardOthers.mono_l k
  ·intro y0 y1 y2 y3 y4 y5 y6 y7 y8
   unfold gafferlaw04_HardOthers.l0
   repeat' first | (with_reducible first | exact ih0 _ _ _ _ _ _ _ _ _ | exact disk_Read.mono _ _ _ _ _ | exact gafferlaw04_lives.mono _ | exact hard_Load.mono _ _ _ _ | exact hard_Save.mono _ _ _ _ _ _ | exact LeO.refl _ | exact LeO.none _ | refine LeO.ite ?_ ?_ | refine LeO.bind ?_ (fun _ => ?_)) | exact ih0 _ _ _ _ _ _ _ _ _ | exact disk_Read.mono _ _ _ _ _ | exact gafferlaw04_lives.mono _ | exact hard_Load.mono _ _ _ _ | exact hard_Save.mono _ _ _ _ _ _ | exact LeO.none _ | refine LeO.ite ?_ ?_ | refine LeO.bind ?_ (fun _ => ?_)
theorem gafferlaw04_HardOthers.mono : ∀ a0 a1 a2 a3 a4 k, LeO (gafferlaw04_HardOthers.f k a0 a1 a2 a3 a4) (gafferlaw04_HardOthers.f (k + 1) a0 a1 a2 a3 a4) := by
 intro a0 a1 a2 a3 a4 k
 have ih0 := gafferlaw04_HardOthers.mono_l k
 unfold gafferlaw04_HardOthers.f
 repeat' first | (with_reducible first | exact ih0 _ _ _ _ _ _ _ _ _ | exact disk_Read.mono _ _ _ _ _ | exact gafferlaw04_lives.mono _ | exact hard_Load.mono _ _ _ _ | exact hard_Save.mono _ _ _ _ _ _ | exact LeO.refl _ | exact LeO.none _ | refine LeO.ite ?_ ?_ | refine LeO.bind ?_ (fun _ => ?_)) | exact ih0 _ _ _ _ _ _ _ _ _ | exact disk_Read.mono _ _ _ _ _ | exact gafferlaw04_lives.mono _ | exact hard_Load.mono _ _ _ _ | exact hard_Save.mono _ _ _ _ _ _ | exact LeO.none _ | refine LeO.ite ?_ ?_ | refine LeO.bind ?_ (fun _ => ?_)
set_option maxHeartbeats 80000000 in
set_option maxRecDepth 100000 in
theorem gafferlaw04_HardOthers.calls (k : Nat) (P0_0_ : Nat → Prop) (A0_0 : Option Addr) (c0_0 : Nat) (l0_0 : List (S71)) (a0_1 : Bool) (a0_2 : Int) (A1 : Option Addr) (c1 : Nat) (l1 : List (S27)) (a2 : ByteArray) (r : Bool) (w : World) (hs0_0 : Kd.V k71 71 w w.heap.size (fun k_ => P0_0_ k_) (.slice A0_0 l0_0.length c0_0) l0_0) (hr1 : Kd.C k27 w A1 l1.length l1) (hc1 : l1.length ≤ c1) (h : gafferlaw04_HardOthers.f k l0_0 a0_1 a0_2 l1 a2 = some r) (hr : r = true) :
  Calls Try.prog 5 #[.agg #[.slice A0_0 l0_0.length c0_0, .bool a0_1, .int .i64 a0_2], .slice A1 l1.length c1, .string a2] w fun e w' => e = .returned (.bool r) ∧ Below w.heap.size w w' := by
 have hu24 := Try.underlying24
 have hu27 := Try.underlying27
 have HO0_0 := Aside0.mk (show Kd.V k71 71 w w.heap.size (fun k_ => (P0_0_ k_ ∨ w.heap.size ≤ k_)) (.slice A0_0 l0_0.length c0_0) l0_0 from Kd.V_mono hs0_0 (fun k_ hk => .inl hk))
 have HR1 := Aside0.mk hr1
 have HC1 := Aside0.mk hc1
 clear hr1 hc1
 have HB := Aside0.mk (Below.refl w.heap.size w)
 have H : ((gafferlaw04_lives.f k).bind fun t400 => (if t400 = true then ((disk_Read.f k l0_0 a0_1 a0_2 a2).bind fun bt401 => (gafferlaw04_HardOthers.l0 k a2 bt401.1 bt401.2 l1 (l1.length : Int) 0 l0_0 a0_1 a0_2)) else (some false))) = some r := h
 clear h
 obtain ⟨t400, A40, H⟩ := Option.bind_eq_some_iff.mp H
 try dsimp only at H
 have A4 := Aside0.mk A40
 clear A40
 by_cases c5 : t400 = true
 rotate_left
 ·replace c5 := Bool.eq_false_iff.mpr c5
  subst c5
  have H1 : (some false) = some r := by rw [if_neg (show ¬ (false = true) by decide)] at H; exact H
  clear H
  have H := H1
  clear H1
  exact absurd (H.trans (congrArg some hr)) (by simp)

 subst c5
 have H1 : ((disk_Read.f k l0_0 a0_1 a0_2 a2).bind fun bt401 => (gafferlaw04_HardOthers.l0 k a2 bt401.1 bt401.2 l1 (l1.length : Int) 0 l0_0 a0_1 a0_2)) = some r := by rw [if_pos rfl] at H; exact H
 clear H
 have H := H1
 clear H1
 obtain ⟨⟨t401, t402⟩, A60, H⟩ := Option.bind_eq_some_iff.mp H
 try dsimp only at H
 have A6 := Aside0.mk A60
 clear A60
 have H' := Aside0.mk H
 clear H
 go_enter Try.func5, Try.ntmps5
 go_wp2_with (first | ((with_reducible refine gate_dst (N := 3) rfl ?_); refine bx_ 3 #[.slice A0_0 l0_0.length c0_0, .bool a0_1, .int .i64 a0_2] 24 ?_; intro gb399 hg w7 hbox hb; replace HO0_0 := Aside0.mk (Kd.V_below (Kd.V_elderB (by (with_reducible repeat (first | apply Kd.V_alloc | apply Kd.V_drewN | apply Kd.V_drew)); exact HO0_0.out) gb399 (Nat.le_of_eq hg.symm)) hb); have BK399 := Aside0.mk (hbox); have GE399 := Aside0.mk (bs_0 hg HB); replace HB := Aside0.mk (below_step (bl_ HB) hb); clear hb hbox hg) | ((with_reducible refine gate_callee (f := 19) rfl ?_); refine goesL_ (some 17) rfl rfl Try.func19 (by kernel_rfl) rfl #[] rfl (ar_) ?_; (with_reducible refine (gafferlaw04_lives.calls k  true _ A4.out).mono ?_); rintro e w8 ⟨rfl, hb⟩; refine ⟨_, rfl, ?_⟩; replace HO0_0 := Aside0.mk (Kd.V_below (by (with_reducible repeat (first | apply Kd.V_alloc | apply Kd.V_drewN | apply Kd.V_drew)); exact HO0_0.out) hb); replace BK399 := Aside0.mk (bb_ BK399 hb); replace HB := Aside0.mk (below_step (bl_1 HB GE399) hb); (try clear hb); obtain ⟨hcz9_0, hcz9_1, hcz9_2, hfz9_0, hfz9_1, hfz9_2⟩ := c3_ BK399) | ((with_reducible refine gate_callee (f := 24) rfl ?_); refine goesL_ (some 22) rfl rfl Try.func24 (by kernel_rfl) rfl #[.agg #[.slice A0_0 l0_0.length c0_0, .bool a0_1, .int .i64 a0_2], .string a2] rfl (ar_) ?_; (with_reducible refine (disk_Read.calls k _ _ l0_0 a0_1 a0_2 a2 t401 t402 _ ?side1 ?side2 A6.out).mono ?_); (case side1 => exact cl_ ((Kd.V_reads' HO0_0.out).2.2)); (case side2 => exact (Kd.V_reads' HO0_0.out).2.1); rintro e w10 ⟨rfl, hb⟩; refine ⟨_, rfl, ?_⟩; replace HO0_0 := Aside0.mk (Kd.V_below (by (with_reducible repeat (first | apply Kd.V_alloc | apply Kd.V_drewN | apply Kd.V_drew)); exact HO0_0.out) hb); replace BK399 := Aside0.mk (bb_ BK399 hb); replace HB := Aside0.mk (below_step (bl_1 HB GE399) hb); (try clear hb)))
 go_loopg [27] k (fun kq v27 w' => ∃ (x27_1 : Int) (x400000_1 : List (S71)) (x400001_1 : Bool) (x400002_1 : Int) (u400000 : Value), v27 = .int .i64 x27_1 ∧ Aside0 (gafferlaw04_HardOthers.l0 kq a2 t401 t402 l1 (l1.length : Int) x27_1 x400000_1 x400001_1 x400002_1 = some r) ∧ Aside0 (kq ≤ k) ∧ Aside0 (Kd.V k71 71 w' w.heap.size (fun k_ => (P0_0_ k_ ∨ w.heap.size ≤ k_) ∧ k_ ≠ gb399) u400000 x400000_1) ∧ Aside0 (w'.heap[gb399]? = some (.cells #[u400000, .bool x400001_1, .int .i64 x400002_1] 24 (0, 0))) ∧ Aside0 (Below w.heap.size w w'))
 case atStart => exact ⟨(0), (l0_0), (a0_1), (a0_2), (.slice A0_0 l0_0.length c0_0), (by first | rfl | (simp; done) | (simp [*]; done)), H', ⟨Nat.le_refl _⟩, ⟨by (with_reducible repeat (first | apply Kd.V_alloc | apply Kd.V_drewN | apply Kd.V_drew)); exact HO0_0.out⟩, ⟨bk_ BK399⟩, ⟨bl_1 HB GE399⟩⟩
 case round =>
  clear H'
  try clear c1
  try clear c2
  try clear p2
  try clear c5
  try clear hcz9_0
  try clear hcz9_1
  try clear hcz9_2
  try clear hfz9_0
  try clear hfz9_1
  try clear hfz9_2
  obtain ⟨x27_1, x400000_1, x400001_1, x400002_1, u400000, rfl, HA, HK1, HO_400000, BK399, HB⟩ := hrel
  cases gk with
  | zero => exact absurd HA.out (by simp [gafferlaw04_HardOthers.l0])
  | succ k1 =>
   have H := HA.out
   clear HA
   simp only [gafferlaw04_HardOthers.l0] at H
   by_cases c11 : x27_1 < (l1.length : Int)
   rotate_left
   ·rw [if_neg c11] at H
    have c11b0 : decide (x27_1 < (l1.length : Int)) = false := decide_eq_false c11
    clear c11
    obtain ⟨⟨t403, t404⟩, A730, H⟩ := Option.bind_eq_some_iff.mp H
    try dsimp only at H
    have A73 := Aside0.mk A730
    clear A730
    by_cases c74 : a2.toList = ([104, 97, 114, 100] : List UInt8)
    ·rw [if_pos c74] at H
     have c74b0 : (a2.toList == ([104, 97, 114, 100] : List UInt8)) = true := beq_iff_eq.mpr c74
     have c74b1 : (a2.toList != ([104, 97, 114, 100] : List UInt8)) = false := bne_eq_false_iff_eq.mpr c74
     clear c74
     obtain rfl := Option.some.inj H
     obtain ⟨hcz75_0, hcz75_1, hcz75_2, hfz75_0, hfz75_1, hfz75_2⟩ := c3_ BK399
     obtain ⟨Ao76, co76, eo76⟩ := Kd.V_slice HO_400000.out
     subst eo76
     go_wp2_with (first | ((with_reducible refine gate_callee (f := 24) rfl ?_); refine goesL_ (some 59) rfl rfl Try.func24 (by kernel_rfl) rfl #[.agg #[.slice Ao76 x400000_1.length co76, .bool x400001_1, .int .i64 x400002_1], .string a2] rfl (ar_) ?_; (with_reducible refine (disk_Read.calls k1 _ _ x400000_1 x400001_1 x400002_1 a2 t403 t404 _ ?side1 ?side2 A73.out).mono ?_); (case side1 => exact cl_ ((Kd.V_reads' HO_400000.out).2.2)); (case side2 => exact (Kd.V_reads' HO_400000.out).2.1); rintro e w77 ⟨rfl, hb⟩; refine ⟨_, rfl, ?_⟩; replace HO_400000 := Aside0.mk (Kd.V_below (by (with_reducible repeat (first | apply Kd.V_alloc | apply Kd.V_drewN | apply Kd.V_drew)); exact HO_400000.out) hb); replace BK399 := Aside0.mk (bb_ BK399 hb); replace HB := Aside0.mk (below_step (bl_1 HB GE399) hb); (try clear hb)))
     go_ret
     exact ⟨by first | rfl | (simp; done) | (simp [*]; done), bl_1 HB GE399⟩
    rw [if_neg c74] at H
    have c74b0 : (a2.toList == ([104, 97, 114, 100] : List UInt8)) = false := beq_eq_false_iff_ne.mpr c74
    have c74b1 : (a2.toList != ([104, 97, 114, 100] : List UInt8)) = true := bne_iff_ne.mpr c74
    by_cases c78 : a2.toList = ([104, 97, 114, 100, 46, 116, 109, 112] : List UInt8)
    ·rw [if_pos c78] at H
     have c78b0 : (a2.toList == ([104, 97, 114, 100, 46, 116, 109, 112] : List UInt8)) = true := beq_iff_eq.mpr c78
     have c78b1 : (a2.toList != ([104, 97, 114, 100, 46, 116, 109, 112] : List UInt8)) = false := bne_eq_false_iff_eq.mpr c78
     clear c78
     obtain rfl := Option.some.inj H
     obtain ⟨hcz79_0, hcz79_1, hcz79_2, hfz79_0, hfz79_1, hfz79_2⟩ := c3_ BK399
     obtain ⟨Ao80, co80, eo80⟩ := Kd.V_slice HO_400000.out
     subst eo80
     go_wp2_with (first | ((with_reducible refine gate_callee (f := 24) rfl ?_); refine goesL_ (some 59) rfl rfl Try.func24 (by kernel_rfl) rfl #[.agg #[.slice Ao80 x400000_1.length co80, .bool x400001_1, .int .i64 x400002_1], .string a2] rfl (ar_) ?_; (with_reducible refine (disk_Read.calls k1 _ _ x400000_1 x400001_1 x400002_1 a2 t403 t404 _ ?side1 ?side2 A73.out).mono ?_); (case side1 => exact cl_ ((Kd.V_reads' HO_400000.out).2.2)); (case side2 => exact (Kd.V_reads' HO_400000.out).2.1); rintro e w81 ⟨rfl, hb⟩; refine ⟨_, rfl, ?_⟩; replace HO_400000 := Aside0.mk (Kd.V_below (by (with_reducible repeat (first | apply Kd.V_alloc | apply Kd.V_drewN | apply Kd.V_drew)); exact HO_400000.out) hb); replace BK399 := Aside0.mk (bb_ BK399 hb); replace HB := Aside0.mk (below_step (bl_1 HB GE399) hb); (try clear hb)))
     go_ret
     exact ⟨by first | rfl | (simp; done) | (simp [*]; done), bl_1 HB GE399⟩
    rw [if_neg c78] at H
    have c78b0 : (a2.toList == ([104, 97, 114, 100, 46, 116, 109, 112] : List UInt8)) = false := beq_eq_false_iff_ne.mpr c78
    have c78b1 : (a2.toList != ([104, 97, 114, 100, 46, 116, 109, 112] : List UInt8)) = true := bne_iff_ne.mpr c78
    by_cases c82 : t401.toList = t403.toList
    rotate_left
    ·rw [if_neg c82] at H
     have c82b0 : (t401.toList == t403.toList) = false := beq_eq_false_iff_ne.mpr c82
     have c82b1 : (t401.toList != t403.toList) = true := bne_iff_ne.mpr c82
     exact absurd (H.trans (congrArg some hr)) (by simp)
    rw [if_pos c82] at H
    have c82b0 : (t401.toList == t403.toList) = true := beq_iff_eq.mpr c82
    have c82b1 : (t401.toList != t403.toList) = false := bne_eq_false_iff_eq.mpr c82
    clear c82
    obtain rfl := Option.some.inj H
    obtain ⟨hcz83_0, hcz83_1, hcz83_2, hfz83_0, hfz83_1, hfz83_2⟩ := c3_ BK399
    obtain ⟨Ao84, co84, eo84⟩ := Kd.V_slice HO_400000.out
    subst eo84
    go_wp2_with (first | ((with_reducible refine gate_callee (f := 24) rfl ?_); refine goesL_ (some 59) rfl rfl Try.func24 (by kernel_rfl) rfl #[.agg #[.slice Ao84 x400000_1.length co84, .bool x400001_1, .int .i64 x400002_1], .string a2] rfl (ar_) ?_; (with_reducible refine (disk_Read.calls k1 _ _ x400000_1 x400001_1 x400002_1 a2 t403 t404 _ ?side1 ?side2 A73.out).mono ?_); (case side1 => exact cl_ ((Kd.V_reads' HO_400000.out).2.2)); (case side2 => exact (Kd.V_reads' HO_400000.out).2.1); rintro e w85 ⟨rfl, hb⟩; refine ⟨_, rfl, ?_⟩; replace HO_400000 := Aside0.mk (Kd.V_below (by (with_reducible repeat (first | apply Kd.V_alloc | apply Kd.V_drewN | apply Kd.V_drew)); exact HO_400000.out) hb); replace BK399 := Aside0.mk (bb_ BK399 hb); replace HB := Aside0.mk (below_step (bl_1 HB GE399) hb); (try clear hb)))
    go_ret
    exact ⟨by first | rfl | (simp; done) | (simp [*]; done), bl_1 HB GE399⟩
   rw [if_pos c11] at H
   have c11b0 : decide (x27_1 < (l1.length : Int)) = true := decide_eq_true c11
   clear c11
   by_cases c12 : 0 ≤ x27_1
   rotate_left
   ·rw [if_neg c12] at H
    exact absurd H (by simp)
   rw [if_pos c12] at H
   have c12b0 : decide (0 ≤ x27_1) = true := decide_eq_true c12
   clear c12
   by_cases c13 : x27_1 < (l1.length : Int)
   rotate_left
   ·rw [if_neg c13] at H
    exact absurd H (by simp)
   rw [if_pos c13] at H
   have c13b0 : decide (x27_1 < (l1.length : Int)) = true := decide_eq_true c13
   clear c13
   by_cases c14 : x27_1 = 20
   ·rw [if_pos c14] at H
    have c14b0 : (x27_1 == 20) = true := beq_iff_eq.mpr c14
    have c14b1 : (x27_1 != 20) = false := bne_eq_false_iff_eq.mpr c14
    clear c14
    obtain ⟨⟨t407, t408⟩, A150, H⟩ := Option.bind_eq_some_iff.mp H
    try dsimp only at H
    have A15 := Aside0.mk A150
    clear A150
    by_cases c16 : a2.toList = ([104, 97, 114, 100] : List UInt8)
    ·rw [if_pos c16] at H
     have c16b0 : (a2.toList == ([104, 97, 114, 100] : List UInt8)) = true := beq_iff_eq.mpr c16
     have c16b1 : (a2.toList != ([104, 97, 114, 100] : List UInt8)) = false := bne_eq_false_iff_eq.mpr c16
     clear c16
     obtain rfl := Option.some.inj H
     have p405 : 0 ≤ (x27_1 : Int) := of_decide_eq_true (by first | (with_reducible assumption) | assumption)
     have q405 : x27_1 < (l1.length : Int) := of_decide_eq_true (by first | (with_reducible assumption) | assumption)
     obtain ⟨ad405, e405, hx405_0, hx405_1⟩ := at_T27 HR1.out x27_1 p405 q405
     cases e405
     replace hx405_0 := (HB.out.cell (World.block_lt_of_cell? w _ hx405_0)).trans hx405_0
     replace hx405_1 := (HB.out.cell (World.block_lt_of_cell? w _ hx405_1)).trans hx405_1
     replace p405 := eq_true p405
     replace q405 := eq_true q405
     go_wp2_with (first | ((with_reducible refine gate_dst (N := 10) rfl ?_); refine bx_ 10 #[.int .u64 0, .int .i64 0] 27 ?_; intro gb406 hg w17 hbox hb; replace HO_400000 := Aside0.mk (Kd.V_below (Kd.V_elderB (by (with_reducible repeat (first | apply Kd.V_alloc | apply Kd.V_drewN | apply Kd.V_drew)); exact HO_400000.out) gb406 (Nat.le_of_eq hg.symm)) hb); have BK406 := Aside0.mk (hbox); have GE406 := Aside0.mk (bs_1 hg HB GE399); replace HB := Aside0.mk (below_step (bl_1 HB GE399) hb); have NB399_406 := Aside0.mk (nb_ hg BK399); have NB406_399 := Aside0.mk (nc_ hg BK399); replace BK399 := Aside0.mk (bb_ BK399 hb); clear hb hbox hg; have hnb18 := NB406_399.out; have hnc18 := NB399_406.out; obtain ⟨hcz19_0, hcz19_1, hfz19_0, hfz19_1⟩ := c2_ BK406; obtain ⟨hcz20_0, hcz20_1, hcz20_2, hfz20_0, hfz20_1, hfz20_2⟩ := c3_ BK399; obtain ⟨Ao21, co21, eo21⟩ := Kd.V_slice HO_400000.out; subst eo21) | ((with_reducible refine gate_callee (f := 24) rfl ?_); refine goesL_ (some 59) rfl rfl Try.func24 (by kernel_rfl) rfl #[.agg #[.slice Ao21 x400000_1.length co21, .bool x400001_1, .int .i64 x400002_1], .string a2] rfl (ar_) ?_; (with_reducible refine (disk_Read.calls k1 _ _ x400000_1 x400001_1 x400002_1 a2 t407 t408 _ ?side1 ?side2 A15.out).mono ?_); (case side1 => refine (Kd.V_reads' (e := 71) (base := w.heap.size) (ok := fun k_ => (((P0_0_ k_ ∨ w.heap.size ≤ k_) ∧ k_ ≠ gb399) ∧ k_ ≠ gb406)) (n := x400000_1.length) (c := co21) ?_).2.2; exact (by (with_reducible repeat (first | apply Kd.V_alloc | apply Kd.V_drewN | apply Kd.V_drew)); exact (Kd.V_mono (Kd.V_far (p := ⟨gb406, 1, none⟩) (Kd.V_far (p := ⟨gb406, 0, none⟩) (Kd.V_mono HO_400000.out (fun k_ hk => (⟨hk, hk.2⟩ : _ ∧ k_ ≠ gb406))) (fun _ hk => hk.2) (.int .u64 ((rd_T27 l1 x27_1).f0))) (fun _ hk => hk.2) (.int .i64 ((rd_T27 l1 x27_1).f1))) (fun _ h_ => h_.1)))); (case side2 => exact (Kd.V_reads' HO_400000.out).2.1); rintro e w22 ⟨rfl, hb⟩; refine ⟨_, rfl, ?_⟩; replace HO_400000 := Aside0.mk (Kd.V_below (by (with_reducible repeat (first | apply Kd.V_alloc | apply Kd.V_drewN | apply Kd.V_drew)); exact (Kd.V_mono (Kd.V_far (p := ⟨gb406, 1, none⟩) (Kd.V_far (p := ⟨gb406, 0, none⟩) (Kd.V_mono HO_400000.out (fun k_ hk => (⟨hk, hk.2⟩ : _ ∧ k_ ≠ gb406))) (fun _ hk => hk.2) (.int .u64 ((rd_T27 l1 x27_1).f0))) (fun _ hk => hk.2) (.int .i64 ((rd_T27 l1 x27_1).f1))) (fun _ h_ => h_.1))) hb); replace BK399 := Aside0.mk (blk_below (g := gb399) (o := .cells #[.slice Ao21 x400000_1.length co21, .bool x400001_1, .int .i64 x400002_1] 24 (0, 0)) (bp_1 BK399 NB399_406) hb); replace BK406 := Aside0.mk (blk_below (g := gb406) (o := .cells #[.int .u64 ((rd_T27 l1 x27_1).f0), .int .i64 ((rd_T27 l1 x27_1).f1)] 27 (0, 0)) (bp_0 BK406) hb); replace HB := Aside0.mk (below_step (bl_2 HB GE399 GE406) hb); (try clear hb)))
     go_ret
     exact ⟨by first | rfl | (simp; done) | (simp [*]; done), bl_2 HB GE399 GE406⟩
    rw [if_neg c16] at H
    have c16b0 : (a2.toList == ([104, 97, 114, 100] : List UInt8)) = false := beq_eq_false_iff_ne.mpr c16
    have c16b1 : (a2.toList != ([104, 97, 114, 100] : List UInt8)) = true := bne_iff_ne.mpr c16
    by_cases c23 : a2.toList = ([104, 97, 114, 100, 46, 116, 109, 112] : List UInt8)
    ·rw [if_pos c23] at H
     have c23b0 : (a2.toList == ([104, 97, 114, 100, 46, 116, 109, 112] : List UInt8)) = true := beq_iff_eq.mpr c23
     have c23b1 : (a2.toList != ([104, 97, 114, 100, 46, 116, 109, 112] : List UInt8)) = false := bne_eq_false_iff_eq.mpr c23
     clear c23
     obtain rfl := Option.some.inj H
     have p405 : 0 ≤ (x27_1 : Int) := of_decide_eq_true (by first | (with_reducible assumption) | assumption)
     have q405 : x27_1 < (l1.length : Int) := of_decide_eq_true (by first | (with_reducible assumption) | assumption)
     obtain ⟨ad405, e405, hx405_0, hx405_1⟩ := at_T27 HR1.out x27_1 p405 q405
     cases e405
     replace hx405_0 := (HB.out.cell (World.block_lt_of_cell? w _ hx405_0)).trans hx405_0
     replace hx405_1 := (HB.out.cell (World.block_lt_of_cell? w _ hx405_1)).trans hx405_1
     replace p405 := eq_true p405
     replace q405 := eq_true q405
     go_wp2_with (first | ((with_reducible refine gate_dst (N := 10) rfl ?_); refine bx_ 10 #[.int .u64 0, .int .i64 0] 27 ?_; intro gb406 hg w24 hbox hb; replace HO_400000 := Aside0.mk (Kd.V_below (Kd.V_elderB (by (with_reducible repeat (first | apply Kd.V_alloc | apply Kd.V_drewN | apply Kd.V_drew)); exact HO_400000.out) gb406 (Nat.le_of_eq hg.symm)) hb); have BK406 := Aside0.mk (hbox); have GE406 := Aside0.mk (bs_1 hg HB GE399); replace HB := Aside0.mk (below_step (bl_1 HB GE399) hb); have NB399_406 := Aside0.mk (nb_ hg BK399); have NB406_399 := Aside0.mk (nc_ hg BK399); replace BK399 := Aside0.mk (bb_ BK399 hb); clear hb hbox hg; have hnb25 := NB406_399.out; have hnc25 := NB399_406.out; obtain ⟨hcz26_0, hcz26_1, hfz26_0, hfz26_1⟩ := c2_ BK406; obtain ⟨hcz27_0, hcz27_1, hcz27_2, hfz27_0, hfz27_1, hfz27_2⟩ := c3_ BK399; obtain ⟨Ao28, co28, eo28⟩ := Kd.V_slice HO_400000.out; subst eo28) | ((with_reducible refine gate_callee (f := 24) rfl ?_); refine goesL_ (some 59) rfl rfl Try.func24 (by kernel_rfl) rfl #[.agg #[.slice Ao28 x400000_1.length co28, .bool x400001_1, .int .i64 x400002_1], .string a2] rfl (ar_) ?_; (with_reducible refine (disk_Read.calls k1 _ _ x400000_1 x400001_1 x400002_1 a2 t407 t408 _ ?side1 ?side2 A15.out).mono ?_); (case side1 => refine (Kd.V_reads' (e := 71) (base := w.heap.size) (ok := fun k_ => (((P0_0_ k_ ∨ w.heap.size ≤ k_) ∧ k_ ≠ gb399) ∧ k_ ≠ gb406)) (n := x400000_1.length) (c := co28) ?_).2.2; exact (by (with_reducible repeat (first | apply Kd.V_alloc | apply Kd.V_drewN | apply Kd.V_drew)); exact (Kd.V_mono (Kd.V_far (p := ⟨gb406, 1, none⟩) (Kd.V_far (p := ⟨gb406, 0, none⟩) (Kd.V_mono HO_400000.out (fun k_ hk => (⟨hk, hk.2⟩ : _ ∧ k_ ≠ gb406))) (fun _ hk => hk.2) (.int .u64 ((rd_T27 l1 x27_1).f0))) (fun _ hk => hk.2) (.int .i64 ((rd_T27 l1 x27_1).f1))) (fun _ h_ => h_.1)))); (case side2 => exact (Kd.V_reads' HO_400000.out).2.1); rintro e w29 ⟨rfl, hb⟩; refine ⟨_, rfl, ?_⟩; replace HO_400000 := Aside0.mk (Kd.V_below (by (with_reducible repeat (first | apply Kd.V_alloc | apply Kd.V_drewN | apply Kd.V_drew)); exact (Kd.V_mono (Kd.V_far (p := ⟨gb406, 1, none⟩) (Kd.V_far (p := ⟨gb406, 0, none⟩) (Kd.V_mono HO_400000.out (fun k_ hk => (⟨hk, hk.2⟩ : _ ∧ k_ ≠ gb406))) (fun _ hk => hk.2) (.int .u64 ((rd_T27 l1 x27_1).f0))) (fun _ hk => hk.2) (.int .i64 ((rd_T27 l1 x27_1).f1))) (fun _ h_ => h_.1))) hb); replace BK399 := Aside0.mk (blk_below (g := gb399) (o := .cells #[.slice Ao28 x400000_1.length co28, .bool x400001_1, .int .i64 x400002_1] 24 (0, 0)) (bp_1 BK399 NB399_406) hb); replace BK406 := Aside0.mk (blk_below (g := gb406) (o := .cells #[.int .u64 ((rd_T27 l1 x27_1).f0), .int .i64 ((rd_T27 l1 x27_1).f1)] 27 (0, 0)) (bp_0 BK406) hb); replace HB := Aside0.mk (below_step (bl_2 HB GE399 GE406) hb); (try clear hb)))
     go_ret
     exact ⟨by first | rfl | (simp; done) | (simp [*]; done), bl_2 HB GE399 GE406⟩
    rw [if_neg c23] at H
    have c23b0 : (a2.toList == ([104, 97, 114, 100, 46, 116, 109, 112] : List UInt8)) = false := beq_eq_false_iff_ne.mpr c23
    have c23b1 : (a2.toList != ([104, 97, 114, 100, 46, 116, 109, 112] : List UInt8)) = true := bne_iff_ne.mpr c23
    by_cases c30 : t401.toList = t407.toList
    rotate_left
    ·rw [if_neg c30] at H
     have c30b0 : (t401.toList == t407.toList) = false := beq_eq_false_iff_ne.mpr c30
     have c30b1 : (t401.toList != t407.toList) = true := bne_iff_ne.mpr c30
     exact absurd (H.trans (congrArg some hr)) (by simp)
    rw [if_pos c30] at H
    have c30b0 : (t401.toList == t407.toList) = true := beq_iff_eq.mpr c30
    have c30b1 : (t401.toList != t407.toList) = false := bne_eq_false_iff_eq.mpr c30
    clear c30
    obtain rfl := Option.some.inj H
    have p405 : 0 ≤ (x27_1 : Int) := of_decide_eq_true (by first | (with_reducible assumption) | assumption)
    have q405 : x27_1 < (l1.length : Int) := of_decide_eq_true (by first | (with_reducible assumption) | assumption)
    obtain ⟨ad405, e405, hx405_0, hx405_1⟩ := at_T27 HR1.out x27_1 p405 q405
    cases e405
    replace hx405_0 := (HB.out.cell (World.block_lt_of_cell? w _ hx405_0)).trans hx405_0
    replace hx405_1 := (HB.out.cell (World.block_lt_of_cell? w _ hx405_1)).trans hx405_1
    replace p405 := eq_true p405
    replace q405 := eq_true q405
    go_wp2_with (first | ((with_reducible refine gate_dst (N := 10) rfl ?_); refine bx_ 10 #[.int .u64 0, .int .i64 0] 27 ?_; intro gb406 hg w31 hbox hb; replace HO_400000 := Aside0.mk (Kd.V_below (Kd.V_elderB (by (with_reducible repeat (first | apply Kd.V_alloc | apply Kd.V_drewN | apply Kd.V_drew)); exact HO_400000.out) gb406 (Nat.le_of_eq hg.symm)) hb); have BK406 := Aside0.mk (hbox); have GE406 := Aside0.mk (bs_1 hg HB GE399); replace HB := Aside0.mk (below_step (bl_1 HB GE399) hb); have NB399_406 := Aside0.mk (nb_ hg BK399); have NB406_399 := Aside0.mk (nc_ hg BK399); replace BK399 := Aside0.mk (bb_ BK399 hb); clear hb hbox hg; have hnb32 := NB406_399.out; have hnc32 := NB399_406.out; obtain ⟨hcz33_0, hcz33_1, hfz33_0, hfz33_1⟩ := c2_ BK406; obtain ⟨hcz34_0, hcz34_1, hcz34_2, hfz34_0, hfz34_1, hfz34_2⟩ := c3_ BK399; obtain ⟨Ao35, co35, eo35⟩ := Kd.V_slice HO_400000.out; subst eo35) | ((with_reducible refine gate_callee (f := 24) rfl ?_); refine goesL_ (some 59) rfl rfl Try.func24 (by kernel_rfl) rfl #[.agg #[.slice Ao35 x400000_1.length co35, .bool x400001_1, .int .i64 x400002_1], .string a2] rfl (ar_) ?_; (with_reducible refine (disk_Read.calls k1 _ _ x400000_1 x400001_1 x400002_1 a2 t407 t408 _ ?side1 ?side2 A15.out).mono ?_); (case side1 => refine (Kd.V_reads' (e := 71) (base := w.heap.size) (ok := fun k_ => (((P0_0_ k_ ∨ w.heap.size ≤ k_) ∧ k_ ≠ gb399) ∧ k_ ≠ gb406)) (n := x400000_1.length) (c := co35) ?_).2.2; exact (by (with_reducible repeat (first | apply Kd.V_alloc | apply Kd.V_drewN | apply Kd.V_drew)); exact (Kd.V_mono (Kd.V_far (p := ⟨gb406, 1, none⟩) (Kd.V_far (p := ⟨gb406, 0, none⟩) (Kd.V_mono HO_400000.out (fun k_ hk => (⟨hk, hk.2⟩ : _ ∧ k_ ≠ gb406))) (fun _ hk => hk.2) (.int .u64 ((rd_T27 l1 x27_1).f0))) (fun _ hk => hk.2) (.int .i64 ((rd_T27 l1 x27_1).f1))) (fun _ h_ => h_.1)))); (case side2 => exact (Kd.V_reads' HO_400000.out).2.1); rintro e w36 ⟨rfl, hb⟩; refine ⟨_, rfl, ?_⟩; replace HO_400000 := Aside0.mk (Kd.V_below (by (with_reducible repeat (first | apply Kd.V_alloc | apply Kd.V_drewN | apply Kd.V_drew)); exact (Kd.V_mono (Kd.V_far (p := ⟨gb406, 1, none⟩) (Kd.V_far (p := ⟨gb406, 0, none⟩) (Kd.V_mono HO_400000.out (fun k_ hk => (⟨hk, hk.2⟩ : _ ∧ k_ ≠ gb406))) (fun _ hk => hk.2) (.int .u64 ((rd_T27 l1 x27_1).f0))) (fun _ hk => hk.2) (.int .i64 ((rd_T27 l1 x27_1).f1))) (fun _ h_ => h_.1))) hb); replace BK399 := Aside0.mk (blk_below (g := gb399) (o := .cells #[.slice Ao35 x400000_1.length co35, .bool x400001_1, .int .i64 x400002_1] 24 (0, 0)) (bp_1 BK399 NB399_406) hb); replace BK406 := Aside0.mk (blk_below (g := gb406) (o := .cells #[.int .u64 ((rd_T27 l1 x27_1).f0), .int .i64 ((rd_T27 l1 x27_1).f1)] 27 (0, 0)) (bp_0 BK406) hb); replace HB := Aside0.mk (below_step (bl_2 HB GE399 GE406) hb); (try clear hb)))
    go_ret
    exact ⟨by first | rfl | (simp; done) | (simp [*]; done), bl_2 HB GE399 GE406⟩
   rw [if_neg c14] at H
   have c14b0 : (x27_1 == 20) = false := beq_eq_false_iff_ne.mpr c14
   have c14b1 : (x27_1 != 20) = true := bne_iff_ne.mpr c14
   obtain ⟨⟨t409, t412, t413, t414⟩, A370, H⟩ := Option.bind_eq_some_iff.mp H
   try dsimp only at H
   have A37 := Aside0.mk A370
   clear A370
   by_cases c38 : t414 = 0
   rotate_left
   ·rw [if_neg c38] at H
    have c38b0 : (t414 == 0) = false := beq_eq_false_iff_ne.mpr c38
    have c38b1 : (t414 != 0) = true := bne_iff_ne.mpr c38
    have H' := Aside0.mk H
    clear H
    have p405 : 0 ≤ (x27_1 : Int) := of_decide_eq_true (by first | (with_reducible assumption) | assumption)
    have q405 : x27_1 < (l1.length : Int) := of_decide_eq_true (by first | (with_reducible assumption) | assumption)
    obtain ⟨ad405, e405, hx405_0, hx405_1⟩ := at_T27 HR1.out x27_1 p405 q405
    cases e405
    replace hx405_0 := (HB.out.cell (World.block_lt_of_cell? w _ hx405_0)).trans hx405_0
    replace hx405_1 := (HB.out.cell (World.block_lt_of_cell? w _ hx405_1)).trans hx405_1
    replace p405 := eq_true p405
    replace q405 := eq_true q405
    go_wp2_with (first | ((with_reducible refine gate_dst (N := 10) rfl ?_); refine bx_ 10 #[.int .u64 0, .int .i64 0] 27 ?_; intro gb406 hg w62 hbox hb; replace HO_400000 := Aside0.mk (Kd.V_below (Kd.V_elderB (by (with_reducible repeat (first | apply Kd.V_alloc | apply Kd.V_drewN | apply Kd.V_drew)); exact HO_400000.out) gb406 (Nat.le_of_eq hg.symm)) hb); have BK406 := Aside0.mk (hbox); have GE406 := Aside0.mk (bs_1 hg HB GE399); replace HB := Aside0.mk (below_step (bl_1 HB GE399) hb); have NB399_406 := Aside0.mk (nb_ hg BK399); have NB406_399 := Aside0.mk (nc_ hg BK399); replace BK399 := Aside0.mk (bb_ BK399 hb); clear hb hbox hg; have hnb63 := NB406_399.out; have hnc63 := NB399_406.out; obtain ⟨hcz64_0, hcz64_1, hfz64_0, hfz64_1⟩ := c2_ BK406; obtain ⟨hcz65_0, hcz65_1, hcz65_2, hfz65_0, hfz65_1, hfz65_2⟩ := c3_ BK399; obtain ⟨Ao66, co66, eo66⟩ := Kd.V_slice HO_400000.out; subst eo66) | ((with_reducible refine gate_callee (f := 17) rfl ?_); refine goesL_ (some 37) rfl rfl Try.func17 (by kernel_rfl) rfl #[.agg #[.slice Ao66 x400000_1.length co66, .bool x400001_1, .int .i64 x400002_1], .agg #[.int .u64 ((rd_T27 l1 x27_1).f0), .int .i64 ((rd_T27 l1 x27_1).f1)]] rfl (ar_) ?_; (with_reducible refine (hard_Save.calls k1 _ _ x400000_1 x400001_1 x400002_1 ((rd_T27 l1 x27_1).f0) ((rd_T27 l1 x27_1).f1) t409 t412 t413 t414 _ ?side1 ?side2 A37.out).mono ?_); (case side1 => refine (Kd.V_reads' (e := 71) (base := w.heap.size) (ok := fun k_ => (((P0_0_ k_ ∨ w.heap.size ≤ k_) ∧ k_ ≠ gb399) ∧ k_ ≠ gb406)) (n := x400000_1.length) (c := co66) ?_).2.2; exact (by (with_reducible repeat (first | apply Kd.V_alloc | apply Kd.V_drewN | apply Kd.V_drew)); exact (Kd.V_mono (Kd.V_far (p := ⟨gb406, 1, none⟩) (Kd.V_far (p := ⟨gb406, 0, none⟩) (Kd.V_mono HO_400000.out (fun k_ hk => (⟨hk, hk.2⟩ : _ ∧ k_ ≠ gb406))) (fun _ hk => hk.2) (.int .u64 ((rd_T27 l1 x27_1).f0))) (fun _ hk => hk.2) (.int .i64 ((rd_T27 l1 x27_1).f1))) (fun _ h_ => h_.1)))); (case side2 => exact (Kd.V_reads' HO_400000.out).2.1); rintro e w67 ⟨v410, rfl, ho0, hb⟩; refine ⟨_, rfl, ?_⟩; replace HO_400000 := Aside0.mk (Kd.V_elder' (by (with_reducible repeat (first | apply Kd.V_alloc | apply Kd.V_drewN | apply Kd.V_drew)); exact (Kd.V_mono (Kd.V_far (p := ⟨gb406, 1, none⟩) (Kd.V_far (p := ⟨gb406, 0, none⟩) (Kd.V_mono HO_400000.out (fun k_ hk => (⟨hk, hk.2⟩ : _ ∧ k_ ≠ gb406))) (fun _ hk => hk.2) (.int .u64 ((rd_T27 l1 x27_1).f0))) (fun _ hk => hk.2) (.int .i64 ((rd_T27 l1 x27_1).f1))) (fun _ h_ => h_.1))) (Kd.R_base ho0) hb); have HO411 := Aside0.mk (Kd.R_lower (Kd.R_newM (M := fun k_ => (w.heap.size ≤ k_)) ho0 (below_size (bl_2 HB GE399 GE406)) (fun k_ h_ => h_)) (below_size (bl_2 HB GE399 GE406))); replace BK399 := Aside0.mk (blk_below (g := gb399) (o := .cells #[.slice Ao66 x400000_1.length co66, .bool x400001_1, .int .i64 x400002_1] 24 (0, 0)) (bp_1 BK399 NB399_406) hb); replace BK406 := Aside0.mk (blk_below (g := gb406) (o := .cells #[.int .u64 ((rd_T27 l1 x27_1).f0), .int .i64 ((rd_T27 l1 x27_1).f1)] 27 (0, 0)) (bp_0 BK406) hb); replace HB := Aside0.mk (below_step (bl_2 HB GE399 GE406) hb); (try clear hb); (try clear ho0)) | ((with_reducible refine gate_dst (N := 11) rfl ?_); refine bx_ 11 #[.slice none 0 0, .bool false, .int .i64 0] 24 ?_; intro gb415 hg w68 hbox hb; replace HO_400000 := Aside0.mk (Kd.V_below (Kd.V_elderB (by (with_reducible repeat (first | apply Kd.V_alloc | apply Kd.V_drewN | apply Kd.V_drew)); exact HO_400000.out) gb415 (Nat.le_of_eq hg.symm)) hb); replace HO411 := Aside0.mk (Kd.R_below (by (with_reducible repeat (first | apply Kd.R_alloc | apply Kd.R_drewN | apply Kd.R_drew)); exact HO411.out) hb); have BK415 := Aside0.mk (hbox); have GE415 := Aside0.mk (bs_2 hg HB GE399 GE406); replace HB := Aside0.mk (below_step (bl_2 HB GE399 GE406) hb); have NB399_415 := Aside0.mk (nb_ hg BK399); have NB415_399 := Aside0.mk (nc_ hg BK399); replace BK399 := Aside0.mk (bb_ BK399 hb); have NB406_415 := Aside0.mk (nb_ hg BK406); have NB415_406 := Aside0.mk (nc_ hg BK406); replace BK406 := Aside0.mk (bb_ BK406 hb); clear hb hbox hg; obtain ⟨Ao69, co69, eo69⟩ := Kd.R_slice HO411.out; subst eo69; have hnb70 := NB415_399.out; have hnc70 := NB399_415.out; have hnb71 := NB415_406.out; have hnc71 := NB406_415.out; obtain ⟨hcz72_0, hcz72_1, hcz72_2, hfz72_0, hfz72_1, hfz72_2⟩ := c3_ BK415))
    go_roundg k1
    case measure => have := HK1.out; omega
    case rel => exact ⟨(wrap64 (x27_1 + 1)), (x400000_1), (x400001_1), (x400002_1), (.slice Ao66 x400000_1.length co66), (by first | rfl | (simp; done) | (simp [*]; done)), H', ⟨by have := HK1.out; omega⟩, ⟨by (with_reducible repeat (first | apply Kd.V_alloc | apply Kd.V_drewN | apply Kd.V_drew)); exact Kd.V_mono (Kd.V_far (p := ⟨gb415, 2, none⟩) (Kd.V_far (p := ⟨gb415, 1, none⟩) (Kd.V_far (p := ⟨gb415, 0, none⟩) (Kd.V_mono HO_400000.out (fun k_ hk => (⟨hk, hk.2⟩ : _ ∧ k_ ≠ gb415))) (fun _ hk => hk.2) (.slice Ao69 t409.length co69)) (fun _ hk => hk.2) (.bool t412)) (fun _ hk => hk.2) (.int .i64 t413)) (fun _ hk => ⟨hk.1.1.1.1.1, hk.1.1.1.1.2⟩)⟩, ⟨by (with_reducible repeat (first | refine blk_drewN ?_ _ | refine blk_drew ?_ | refine blk_alloc ?_ _)); refine blk_far ?_ NB399_415.out _; (with_reducible repeat (first | refine blk_drewN ?_ _ | refine blk_drew ?_ | refine blk_alloc ?_ _)); refine blk_far ?_ NB399_415.out _; (with_reducible repeat (first | refine blk_drewN ?_ _ | refine blk_drew ?_ | refine blk_alloc ?_ _)); refine blk_far ?_ NB399_415.out _; (with_reducible repeat (first | refine blk_drewN ?_ _ | refine blk_drew ?_ | refine blk_alloc ?_ _)); exact BK399.out⟩, ⟨bl_3 HB GE399 GE406 GE415⟩⟩
   rw [if_pos c38] at H
   have c38b0 : (t414 == 0) = true := beq_iff_eq.mpr c38
   have c38b1 : (t414 != 0) = false := bne_eq_false_iff_eq.mpr c38
   clear c38
   obtain ⟨⟨t416, t417, t418⟩, A390, H⟩ := Option.bind_eq_some_iff.mp H
   try dsimp only at H
   have A39 := Aside0.mk A390
   clear A390
   by_cases c40 : t418 = 0
   rotate_left
   ·rw [if_neg c40] at H
    have c40b0 : (t418 == 0) = false := beq_eq_false_iff_ne.mpr c40
    have c40b1 : (t418 != 0) = true := bne_iff_ne.mpr c40
    exact absurd (H.trans (congrArg some hr)) (by simp)
   rw [if_pos c40] at H
   have c40b0 : (t418 == 0) = true := beq_iff_eq.mpr c40
   have c40b1 : (t418 != 0) = false := bne_eq_false_iff_eq.mpr c40
   clear c40
   by_cases c41 : (!(t416 == ((rd_T27 l1 x27_1).f0)) || (!(t417 == ((rd_T27 l1 x27_1).f1)))) = true
   ·rw [if_pos c41] at H
    have c41b0 : (!(t416 == ((rd_T27 l1 x27_1).f0)) || (!(t417 == ((rd_T27 l1 x27_1).f1)))) = true := c41
    clear c41
    exact absurd (H.trans (congrArg some hr)) (by simp)
   rw [if_neg c41] at H
   have c41b0 : (!(t416 == ((rd_T27 l1 x27_1).f0)) || (!(t417 == ((rd_T27 l1 x27_1).f1)))) = false := by simpa using c41
   clear c41
   have H' := Aside0.mk H
   clear H
   have p405 : 0 ≤ (x27_1 : Int) := of_decide_eq_true (by first | (with_reducible assumption) | assumption)
   have q405 : x27_1 < (l1.length : Int) := of_decide_eq_true (by first | (with_reducible assumption) | assumption)
   obtain ⟨ad405, e405, hx405_0, hx405_1⟩ := at_T27 HR1.out x27_1 p405 q405
   cases e405
   replace hx405_0 := (HB.out.cell (World.block_lt_of_cell? w _ hx405_0)).trans hx405_0
   replace hx405_1 := (HB.out.cell (World.block_lt_of_cell? w _ hx405_1)).trans hx405_1
   replace p405 := eq_true p405
   replace q405 := eq_true q405
   go_wp2_with (first | ((with_reducible refine gate_dst (N := 10) rfl ?_); refine bx_ 10 #[.int .u64 0, .int .i64 0] 27 ?_; intro gb406 hg w42 hbox hb; replace HO_400000 := Aside0.mk (Kd.V_below (Kd.V_elderB (by (with_reducible repeat (first | apply Kd.V_alloc | apply Kd.V_drewN | apply Kd.V_drew)); exact HO_400000.out) gb406 (Nat.le_of_eq hg.symm)) hb); have BK406 := Aside0.mk (hbox); have GE406 := Aside0.mk (bs_1 hg HB GE399); replace HB := Aside0.mk (below_step (bl_1 HB GE399) hb); have NB399_406 := Aside0.mk (nb_ hg BK399); have NB406_399 := Aside0.mk (nc_ hg BK399); replace BK399 := Aside0.mk (bb_ BK399 hb); clear hb hbox hg; have hnb43 := NB406_399.out; have hnc43 := NB399_406.out; obtain ⟨hcz44_0, hcz44_1, hfz44_0, hfz44_1⟩ := c2_ BK406; obtain ⟨hcz45_0, hcz45_1, hcz45_2, hfz45_0, hfz45_1, hfz45_2⟩ := c3_ BK399; obtain ⟨Ao46, co46, eo46⟩ := Kd.V_slice HO_400000.out; subst eo46) | ((with_reducible refine gate_callee (f := 17) rfl ?_); refine goesL_ (some 37) rfl rfl Try.func17 (by kernel_rfl) rfl #[.agg #[.slice Ao46 x400000_1.length co46, .bool x400001_1, .int .i64 x400002_1], .agg #[.int .u64 ((rd_T27 l1 x27_1).f0), .int .i64 ((rd_T27 l1 x27_1).f1)]] rfl (ar_) ?_; (with_reducible refine (hard_Save.calls k1 _ _ x400000_1 x400001_1 x400002_1 ((rd_T27 l1 x27_1).f0) ((rd_T27 l1 x27_1).f1) t409 t412 t413 t414 _ ?side1 ?side2 A37.out).mono ?_); (case side1 => refine (Kd.V_reads' (e := 71) (base := w.heap.size) (ok := fun k_ => (((P0_0_ k_ ∨ w.heap.size ≤ k_) ∧ k_ ≠ gb399) ∧ k_ ≠ gb406)) (n := x400000_1.length) (c := co46) ?_).2.2; exact (by (with_reducible repeat (first | apply Kd.V_alloc | apply Kd.V_drewN | apply Kd.V_drew)); exact (Kd.V_mono (Kd.V_far (p := ⟨gb406, 1, none⟩) (Kd.V_far (p := ⟨gb406, 0, none⟩) (Kd.V_mono HO_400000.out (fun k_ hk => (⟨hk, hk.2⟩ : _ ∧ k_ ≠ gb406))) (fun _ hk => hk.2) (.int .u64 ((rd_T27 l1 x27_1).f0))) (fun _ hk => hk.2) (.int .i64 ((rd_T27 l1 x27_1).f1))) (fun _ h_ => h_.1)))); (case side2 => exact (Kd.V_reads' HO_400000.out).2.1); rintro e w47 ⟨v410, rfl, ho0, hb⟩; refine ⟨_, rfl, ?_⟩; replace HO_400000 := Aside0.mk (Kd.V_elder' (by (with_reducible repeat (first | apply Kd.V_alloc | apply Kd.V_drewN | apply Kd.V_drew)); exact (Kd.V_mono (Kd.V_far (p := ⟨gb406, 1, none⟩) (Kd.V_far (p := ⟨gb406, 0, none⟩) (Kd.V_mono HO_400000.out (fun k_ hk => (⟨hk, hk.2⟩ : _ ∧ k_ ≠ gb406))) (fun _ hk => hk.2) (.int .u64 ((rd_T27 l1 x27_1).f0))) (fun _ hk => hk.2) (.int .i64 ((rd_T27 l1 x27_1).f1))) (fun _ h_ => h_.1))) (Kd.R_base ho0) hb); have HO411 := Aside0.mk (Kd.R_lower (Kd.R_newM (M := fun k_ => (w.heap.size ≤ k_)) ho0 (below_size (bl_2 HB GE399 GE406)) (fun k_ h_ => h_)) (below_size (bl_2 HB GE399 GE406))); replace BK399 := Aside0.mk (blk_below (g := gb399) (o := .cells #[.slice Ao46 x400000_1.length co46, .bool x400001_1, .int .i64 x400002_1] 24 (0, 0)) (bp_1 BK399 NB399_406) hb); replace BK406 := Aside0.mk (blk_below (g := gb406) (o := .cells #[.int .u64 ((rd_T27 l1 x27_1).f0), .int .i64 ((rd_T27 l1 x27_1).f1)] 27 (0, 0)) (bp_0 BK406) hb); replace HB := Aside0.mk (below_step (bl_2 HB GE399 GE406) hb); (try clear hb); (try clear ho0)) | ((with_reducible refine gate_dst (N := 11) rfl ?_); refine bx_ 11 #[.slice none 0 0, .bool false, .int .i64 0] 24 ?_; intro gb415 hg w48 hbox hb; replace HO_400000 := Aside0.mk (Kd.V_below (Kd.V_elderB (by (with_reducible repeat (first | apply Kd.V_alloc | apply Kd.V_drewN | apply Kd.V_drew)); exact HO_400000.out) gb415 (Nat.le_of_eq hg.symm)) hb); replace HO411 := Aside0.mk (Kd.R_below (by (with_reducible repeat (first | apply Kd.R_alloc | apply Kd.R_drewN | apply Kd.R_drew)); exact HO411.out) hb); have BK415 := Aside0.mk (hbox); have GE415 := Aside0.mk (bs_2 hg HB GE399 GE406); replace HB := Aside0.mk (below_step (bl_2 HB GE399 GE406) hb); have NB399_415 := Aside0.mk (nb_ hg BK399); have NB415_399 := Aside0.mk (nc_ hg BK399); replace BK399 := Aside0.mk (bb_ BK399 hb); have NB406_415 := Aside0.mk (nb_ hg BK406); have NB415_406 := Aside0.mk (nc_ hg BK406); replace BK406 := Aside0.mk (bb_ BK406 hb); clear hb hbox hg; obtain ⟨Ao49, co49, eo49⟩ := Kd.R_slice HO411.out; subst eo49; have hnb50 := NB415_399.out; have hnc50 := NB399_415.out; have hnb51 := NB415_406.out; have hnc51 := NB406_415.out; obtain ⟨hcz52_0, hcz52_1, hcz52_2, hfz52_0, hfz52_1, hfz52_2⟩ := c3_ BK415) | ((with_reducible refine gate_callee (f := 15) rfl ?_); refine goesL_ (some 44) rfl rfl Try.func15 (by kernel_rfl) rfl #[.agg #[.slice Ao49 t409.length co49, .bool t412, .int .i64 t413]] rfl (ar_) ?_; (with_reducible refine (hard_Load.calls k1 _ _ t409 t412 t413 t416 t417 t418 _ ?side1 ?side2 A39.out).mono ?_); (case side1 => refine (Kd.R_reads' (e := 71) (base := w.heap.size) (ok := fun k_ => ((w.heap.size ≤ k_) ∧ True)) (n := t409.length) (c := co49) ?_).2.2; exact (by (with_reducible repeat (first | apply Kd.R_alloc | apply Kd.R_drewN | apply Kd.R_drew)); exact (Kd.R_mono (Kd.R_far (p := ⟨gb415, 2, none⟩) (Kd.R_far (p := ⟨gb415, 1, none⟩) (Kd.R_far (p := ⟨gb415, 0, none⟩) (Kd.R_types HO411.out BK415.out (by decide)) (fun _ hk => hk.2) (.slice Ao49 t409.length co49)) (fun _ hk => hk.2) (.bool t412)) (fun _ hk => hk.2) (.int .i64 t413)) (fun _ h_ => h_.1)))); (case side2 => exact (Kd.R_reads' HO411.out).2.1); rintro e w53 ⟨rfl, hb⟩; refine ⟨_, rfl, ?_⟩; replace HO_400000 := Aside0.mk (Kd.V_below (by (with_reducible repeat (first | apply Kd.V_alloc | apply Kd.V_drewN | apply Kd.V_drew)); exact (Kd.V_mono (Kd.V_far (p := ⟨gb415, 2, none⟩) (Kd.V_far (p := ⟨gb415, 1, none⟩) (Kd.V_far (p := ⟨gb415, 0, none⟩) (Kd.V_mono HO_400000.out (fun k_ hk => (⟨hk, hk.2⟩ : _ ∧ k_ ≠ gb415))) (fun _ hk => hk.2) (.slice Ao49 t409.length co49)) (fun _ hk => hk.2) (.bool t412)) (fun _ hk => hk.2) (.int .i64 t413)) (fun _ h_ => h_.1))) hb); replace HO411 := Aside0.mk (Kd.R_below (by (with_reducible repeat (first | apply Kd.R_alloc | apply Kd.R_drewN | apply Kd.R_drew)); exact (Kd.R_mono (Kd.R_far (p := ⟨gb415, 2, none⟩) (Kd.R_far (p := ⟨gb415, 1, none⟩) (Kd.R_far (p := ⟨gb415, 0, none⟩) (Kd.R_types HO411.out BK415.out (by decide)) (fun _ hk => hk.2) (.slice Ao49 t409.length co49)) (fun _ hk => hk.2) (.bool t412)) (fun _ hk => hk.2) (.int .i64 t413)) (fun _ h_ => h_.1))) hb); replace BK399 := Aside0.mk (blk_below (g := gb399) (o := .cells #[.slice Ao46 x400000_1.length co46, .bool x400001_1, .int .i64 x400002_1] 24 (0, 0)) (bp_1 BK399 NB399_415) hb); replace BK406 := Aside0.mk (blk_below (g := gb406) (o := .cells #[.int .u64 ((rd_T27 l1 x27_1).f0), .int .i64 ((rd_T27 l1 x27_1).f1)] 27 (0, 0)) (bp_1 BK406 NB406_415) hb); replace BK415 := Aside0.mk (blk_below (g := gb415) (o := .cells #[.slice Ao49 t409.length co49, .bool t412, .int .i64 t413] 24 (0, 0)) (bp_0 BK415) hb); replace HB := Aside0.mk (below_step (bl_3 HB GE399 GE406 GE415) hb); (try clear hb)) | ((with_reducible refine gate_dst (N := 13) rfl ?_); refine bx_ 13 #[.int .u64 0, .int .i64 0] 27 ?_; intro gb419 hg w54 hbox hb; replace HO_400000 := Aside0.mk (Kd.V_below (Kd.V_elderB (by (with_reducible repeat (first | apply Kd.V_alloc | apply Kd.V_drewN | apply Kd.V_drew)); exact HO_400000.out) gb419 (Nat.le_of_eq hg.symm)) hb); replace HO411 := Aside0.mk (Kd.R_below (by (with_reducible repeat (first | apply Kd.R_alloc | apply Kd.R_drewN | apply Kd.R_drew)); exact HO411.out) hb); have BK419 := Aside0.mk (hbox); have GE419 := Aside0.mk (bs_3 hg HB GE399 GE406 GE415); replace HB := Aside0.mk (below_step (bl_3 HB GE399 GE406 GE415) hb); have NB399_419 := Aside0.mk (nb_ hg BK399); have NB419_399 := Aside0.mk (nc_ hg BK399); replace BK399 := Aside0.mk (bb_ BK399 hb); have NB406_419 := Aside0.mk (nb_ hg BK406); have NB419_406 := Aside0.mk (nc_ hg BK406); replace BK406 := Aside0.mk (bb_ BK406 hb); have NB415_419 := Aside0.mk (nb_ hg BK415); have NB419_415 := Aside0.mk (nc_ hg BK415); replace BK415 := Aside0.mk (bb_ BK415 hb); clear hb hbox hg; have hnb55 := NB419_399.out; have hnc55 := NB399_419.out; have hnb56 := NB419_406.out; have hnc56 := NB406_419.out; have hnb57 := NB419_415.out; have hnc57 := NB415_419.out; obtain ⟨hcz58_0, hcz58_1, hfz58_0, hfz58_1⟩ := c2_ BK419; obtain ⟨hcz59_0, hcz59_1, hfz59_0, hfz59_1⟩ := c2_ BK406; obtain ⟨hcz60_0, hcz60_1, hcz60_2, hfz60_0, hfz60_1, hfz60_2⟩ := c3_ BK415; obtain ⟨hcz61_0, hcz61_1, hcz61_2, hfz61_0, hfz61_1, hfz61_2⟩ := c3_ BK399))
   go_roundg k1
   case measure => have := HK1.out; omega
   case rel => exact ⟨(wrap64 (x27_1 + 1)), (t409), (t412), (t413), (.slice Ao49 t409.length co49), (by first | rfl | (simp; done) | (simp [*]; done)), H', ⟨by have := HK1.out; omega⟩, ⟨Kd.V_mono (ok := (fun k_ => (((w.heap.size ≤ k_)) ∧ k_ ≠ gb399))) (Kd.R_V (by (with_reducible repeat (first | apply Kd.R_alloc | apply Kd.R_drewN | apply Kd.R_drew)); exact Kd.R_mono (Kd.R_far (p := ⟨gb399, 2, none⟩) (Kd.R_far (p := ⟨gb399, 1, none⟩) (Kd.R_far (p := ⟨gb399, 0, none⟩) (Kd.R_far (p := ⟨gb419, 1, none⟩) (Kd.R_far (p := ⟨gb419, 0, none⟩) (Kd.R_types (Kd.R_types (Kd.R_types HO411.out BK399.out (by decide)) BK419.out (by decide)) BK399.out (by decide)) (fun _ hk => hk.1.2) (.int .u64 t416)) (fun _ hk => hk.1.2) (.int .i64 t417)) (fun _ hk => hk.2) (.slice Ao49 t409.length co49)) (fun _ hk => hk.2) (.bool t412)) (fun _ hk => hk.2) (.int .i64 t413)) (fun _ hk => ⟨hk.1.1.1.1, hk.1.1.2⟩))) (fun k_ hk => by first | exact ⟨(.inr (hk.1)), hk.2⟩ | exact (.inr (hk)))⟩, ⟨by (with_reducible repeat (first | refine blk_drewN ?_ _ | refine blk_drew ?_ | refine blk_alloc ?_ _)); refine blk_put (cs := #[.slice Ao49 t409.length co49, .bool t412, .int .i64 x400002_1]) ?_ 2 _ rfl; (with_reducible repeat (first | refine blk_drewN ?_ _ | refine blk_drew ?_ | refine blk_alloc ?_ _)); refine blk_put (cs := #[.slice Ao49 t409.length co49, .bool x400001_1, .int .i64 x400002_1]) ?_ 1 _ rfl; (with_reducible repeat (first | refine blk_drewN ?_ _ | refine blk_drew ?_ | refine blk_alloc ?_ _)); refine blk_put (cs := #[.slice Ao46 x400000_1.length co46, .bool x400001_1, .int .i64 x400002_1]) ?_ 0 _ rfl; (with_reducible repeat (first | refine blk_drewN ?_ _ | refine blk_drew ?_ | refine blk_alloc ?_ _)); refine blk_far ?_ NB399_419.out _; (with_reducible repeat (first | refine blk_drewN ?_ _ | refine blk_drew ?_ | refine blk_alloc ?_ _)); refine blk_far ?_ NB399_419.out _; (with_reducible repeat (first | refine blk_drewN ?_ _ | refine blk_drew ?_ | refine blk_alloc ?_ _)); exact BK399.out⟩, ⟨bl_4 HB GE399 GE406 GE415 GE419⟩⟩
/-- THE ONE PURE STATEMENT of gafferlaw04_HardOthers: yours. -/
def gafferlaw04_HardOthers.Pure : Prop := ∀ (x0 : S24) (x1 : List (S27)) (x2 : ByteArray), ok24 x0 → (okSl 16 ok27) x1 → okStr x2 → ∃ k, gafferlaw04_HardOthers.f k x0.f0 x0.f1 x0.f2 x1 x2 = some true

end Go.Proofs.Ytpigjmjbfpipnaa.PB
