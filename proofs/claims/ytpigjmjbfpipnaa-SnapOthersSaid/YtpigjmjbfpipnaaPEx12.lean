-- Written for this claim by a program of this session. Lean checks it.
import Derived.Test.YtpigjmjbfpipnaaPEx0
import Derived.Test.YtpigjmjbfpipnaaPEx1
import Derived.Test.YtpigjmjbfpipnaaPEx2
import Derived.Test.YtpigjmjbfpipnaaPEx11
namespace Go.Proofs.Ytpigjmjbfpipnaa.PE
open Go.RowKit Go.Proofs.YtpigjmjbfpipnaaW.PrintWords Go.Proofs.YtpigjmjbfpipnaaW.PrintLast Go.Proofs.YtpigjmjbfpipnaaW.PrintMore Go.Proofs.Ytpigjmjbfpipnaa.Sh Go.Proofs.Ytpigjmjbfpipnaa.Op
attribute [local go_sem] max2_int min2_int max_two min_two max_three min_three max_four min_four   -- for this text's walks alone
set_option linter.unusedVariables false
set_option maxHeartbeats 80000000
set_option maxRecDepth 100000
set_option linter.unusedSimpArgs false

attribute [local go_sem high] eqA71
/-! ### gafferlaw05_SnapOthers: function 12 -/
def gafferlaw05_SnapOthers.j0 : Nat → ByteArray → Bool → List (S71) → Bool → Int → Int → Int → List Int → ByteArray → Option (Bool)
 | 0, _, _, _, _, _, _, _, _, _ => none
 | k + 1, x2, x25, x389000, x389001, x389002, x390000, x390001, x390002, x390003 => if x25 = true then (some true) else ((disk_Read.f k x389000 x389001 x389002 x2).bind fun bt392 => ((snap_Save.f k x389000 x389001 x389002 x390000 x390001 x390002 x390003).bind fun bt394 => ((disk_Read.f k bt394.1 bt394.2.1 bt394.2.2.1 x2).bind fun bt401 => (if bt394.2.2.2 = 8 then (some true) else (if bt392.1.toList = bt401.1.toList then (some (bt392.2 == bt401.2)) else (some false))))))
def gafferlaw05_SnapOthers.f (k : Nat) (l0_0 : List (S71)) (a0_1 : Bool) (a0_2 : Int) (a1_0 : Int) (a1_1 : Int) (l1_2 : List Int) (a1_3 : ByteArray) (a2 : ByteArray) : Option (Bool) := (gafferlaw05_lives.f k).bind fun t390 => (if t390 = true then (if a2.toList = ([115, 110, 97, 112] : List UInt8) then (gafferlaw05_SnapOthers.j0 k a2 true l0_0 a0_1 a0_2 a1_0 a1_1 l1_2 a1_3) else (if a2.toList = ([115, 110, 97, 112, 46, 116, 109, 112] : List UInt8) then (gafferlaw05_SnapOthers.j0 k a2 true l0_0 a0_1 a0_2 a1_0 a1_1 l1_2 a1_3) else ((disk_Check.f k l0_0 a0_1 a0_2).bind fun t391 => (gafferlaw05_SnapOthers.j0 k a2 (t391 != 0) l0_0 a0_1 a0_2 a1_0 a1_1 l1_2 a1_3)))) else (some false))
theorem gafferlaw05_SnapOthers.mono_l : ∀ k, (∀ y0 y1 y2 y3 y4 y5 y6 y7 y8, LeO (gafferlaw05_SnapOthers.j0 k y0 y1 y2 y3 y4 y5 y6 y7 y8) (gafferlaw05_SnapOthers.j0 (k + 1) y0 y1 y2 y3 y4 y5 y6 y7 y8))
 | 0 => fun _ _ _ _ _ _ _ _ _ r h => by simp [gafferlaw05_SnapOthers.j0] at h
 | k + 1 => by
  have ih0 := gafferlaw05_SnapOthers.mono_l k
  ·intro y0 y1 y2 y3 y4 y5 y6 y7 y8
   unfold gafferlaw05_SnapOthers.j0
   repeat' with_reducible first | exact ih0 _ _ _ _ _ _ _ _ _ | exact disk_Check.mono _ _ _ _ | exact disk_Read.mono _ _ _ _ _ | exact gafferlaw05_lives.mono _ | exact snap_Save.mono _ _ _ _ _ _ _ _ | exact LeO.refl _ | exact LeO.none _ | refine LeO.ite ?_ ?_ | refine LeO.bind ?_ (fun _ => ?_)
theorem gafferlaw05_SnapOthers.mono : ∀ a0 a1 a2 a3 a4 a5 a6 a7 k, LeO (gafferlaw05_SnapOthers.f k a0 a1 a2 a3 a4 a5 a6 a7) (gafferlaw05_SnapOthers.f (k + 1) a0 a1 a2 a3 a4 a5 a6 a7) := by
 intro a0 a1 a2 a3 a4 a5 a6 a7 k
 have ih0 := gafferlaw05_SnapOthers.mono_l k
 unfold gafferlaw05_SnapOthers.f
 repeat' with_reducible first | exact ih0 _ _ _ _ _ _ _ _ _ | exact disk_Check.mono _ _ _ _ | exact disk_Read.mono _ _ _ _ _ | exact gafferlaw05_lives.mono _ | exact snap_Save.mono _ _ _ _ _ _ _ _ | exact LeO.refl _ | exact LeO.none _ | refine LeO.ite ?_ ?_ | refine LeO.bind ?_ (fun _ => ?_)
theorem gafferlaw05_SnapOthers.calls (k : Nat) (A0_0 : Option Addr) (c0_0 : Nat) (l0_0 : List (S71)) (a0_1 : Bool) (a0_2 : Int) (a1_0 : Int) (a1_1 : Int) (A1_2 : Option Addr) (c1_2 : Nat) (l1_2 : List Int) (a1_3 : ByteArray) (a2 : ByteArray) (r : Bool) (w : World) (hr0_0 : Kd.C k71 w A0_0 l0_0.length l0_0) (hc0_0 : l0_0.length ≤ c0_0) (hr1_2 : Kd.C (Kd.int .i64) w A1_2 l1_2.length l1_2) (hc1_2 : l1_2.length ≤ c1_2) (h : gafferlaw05_SnapOthers.f k l0_0 a0_1 a0_2 a1_0 a1_1 l1_2 a1_3 a2 = some r) (hr : r = true) :
  Calls Try.prog 12 #[.agg #[.slice A0_0 l0_0.length c0_0, .bool a0_1, .int .i64 a0_2], .agg #[.int .u64 a1_0, .int .u64 a1_1, .slice A1_2 l1_2.length c1_2, .string a1_3], .string a2] w fun e w' => e = .returned (.bool r) ∧ Below w.heap.size w w' := by
 have hu24 := Try.underlying24
 have hu48 := Try.underlying48
 have HR0_0 := a_ hr0_0
 have HC0_0 := a_ hc0_0
 clear hr0_0 hc0_0
 have HR1_2 := a_ hr1_2
 have HC1_2 := a_ hc1_2
 clear hr1_2 hc1_2
 have HB := a_ (Below.refl w.heap.size w)
 have H : ((gafferlaw05_lives.f k).bind fun t390 => (if t390 = true then (if a2.toList = ([115, 110, 97, 112] : List UInt8) then (gafferlaw05_SnapOthers.j0 k a2 true l0_0 a0_1 a0_2 a1_0 a1_1 l1_2 a1_3) else (if a2.toList = ([115, 110, 97, 112, 46, 116, 109, 112] : List UInt8) then (gafferlaw05_SnapOthers.j0 k a2 true l0_0 a0_1 a0_2 a1_0 a1_1 l1_2 a1_3) else ((disk_Check.f k l0_0 a0_1 a0_2).bind fun t391 => (gafferlaw05_SnapOthers.j0 k a2 (t391 != 0) l0_0 a0_1 a0_2 a1_0 a1_1 l1_2 a1_3)))) else (some false))) = some r := h
 clear h
 obtain ⟨t390, A40, H⟩ := Option.bind_eq_some_iff.mp H
 try dsimp only at H
 have A4 := a_ A40
 clear A40
 by_cases c5 : t390 = true
 rotate_left
 ·replace c5 := Bool.eq_false_iff.mpr c5
  subst c5
  have H1 : (some false) = some r := by rw [if_neg (show ¬ (false = true) by decide)] at H; exact H
  clear H
  have H := H1
  clear H1
  exact absurd (H.trans (congrArg some hr)) (by simp)

 subst c5
 have H1 : (if a2.toList = ([115, 110, 97, 112] : List UInt8) then (gafferlaw05_SnapOthers.j0 k a2 true l0_0 a0_1 a0_2 a1_0 a1_1 l1_2 a1_3) else (if a2.toList = ([115, 110, 97, 112, 46, 116, 109, 112] : List UInt8) then (gafferlaw05_SnapOthers.j0 k a2 true l0_0 a0_1 a0_2 a1_0 a1_1 l1_2 a1_3) else ((disk_Check.f k l0_0 a0_1 a0_2).bind fun t391 => (gafferlaw05_SnapOthers.j0 k a2 (t391 != 0) l0_0 a0_1 a0_2 a1_0 a1_1 l1_2 a1_3)))) = some r := by rw [if_pos rfl] at H; exact H
 clear H
 have H := H1
 clear H1
 have HC6 := a_ H
 clear H
 go_enter Try.func12, Try.ntmps12
 go_upto_region 3 with (first | ((with_reducible refine gd_ 3 ?_); refine bx_ 3 #[.slice A0_0 l0_0.length c0_0, .bool a0_1, .int .i64 a0_2] 24 ?_; intro gb388 hg w7 hbox hb; have BK388 := a_ (hbox); have GE388 := a_ (bs_0 hg HB); replace HB := hB_ (bl_ HB) hb; clear hb hbox hg) | ((with_reducible refine gd_ 4 ?_); refine bx_ 4 #[.int .u64 a1_0, .int .u64 a1_1, .slice A1_2 l1_2.length c1_2, .string a1_3] 48 ?_; intro gb389 hg w8 hbox hb; have BK389 := a_ (hbox); have GE389 := a_ (bs_1 hg HB GE388); replace HB := hB_ (bl_1 HB GE388) hb; have NB388_389 := nB_ hg BK388; have NB389_388 := nC_ hg BK388; replace BK388 := bB_ BK388 hb; clear hb hbox hg) | ((with_reducible refine gk_ 29 ?_); refine gl_ (some 13) Try.func29 #[] ?_; (with_reducible refine (gafferlaw05_lives.calls k  true _ A4.out).mono ?_); rintro e w9 ⟨rfl, hb⟩; refine ⟨_, rfl, ?_⟩; replace BK388 := bB_ BK388 hb; replace BK389 := bB_ BK389 hb; replace HB := hB_ (bl_2 HB GE388 GE389) hb; (try clear hb)))
 (try simp only [Act.put, List.setIfInBounds_toArray, List.set_cons_zero, List.set_cons_succ])
 go_cut [25] (fun v25 wc => ∃ (kq : Nat) (x25_5 : Bool), v25 = .bool x25_5 ∧ Aside0 (gafferlaw05_SnapOthers.j0 kq a2 x25_5 l0_0 a0_1 a0_2 a1_0 a1_1 l1_2 a1_3 = some r) ∧ Aside0 (kq ≤ k) ∧ Aside0 (wc.heap[gb388]? = some (.cells #[(.slice A0_0 l0_0.length c0_0), .bool a0_1, .int .i64 a0_2] 24 (0, 0))) ∧ Aside0 (wc.heap[gb389]? = some (.cells #[.int .u64 a1_0, .int .u64 a1_1, (.slice A1_2 l1_2.length c1_2), .string a1_3] 48 (0, 0))) ∧ Aside0 (Below w.heap.size w wc))
 case first =>
  have H := HC6.out
  clear HC6
  by_cases c10 : a2.toList = ([115, 110, 97, 112] : List UInt8)
  ·rw [if_pos c10] at H
   have c10b0 : (a2.toList == ([115, 110, 97, 112] : List UInt8)) = true := beq_iff_eq.mpr c10
   have c10b1 : (a2.toList != ([115, 110, 97, 112] : List UInt8)) = false := bne_eq_false_iff_eq.mpr c10
   clear c10
   (first | rw [c10b0] | (simp only [i64_w, i32_w]; rw [c10b0]) | skip)
   have H' := a_ H
   clear H
   go_wp2
   go_meet
   case rel => exact ⟨_, (true), fz_, H', ⟨by first | omega | exact Nat.le_refl _⟩, ⟨bk_ BK388⟩, ⟨bk_ BK389⟩, ⟨bl_2 HB GE388 GE389⟩⟩
  rw [if_neg c10] at H
  have c10b0 : (a2.toList == ([115, 110, 97, 112] : List UInt8)) = false := beq_eq_false_iff_ne.mpr c10
  have c10b1 : (a2.toList != ([115, 110, 97, 112] : List UInt8)) = true := bne_iff_ne.mpr c10
  (first | rw [c10b0] | (simp only [i64_w, i32_w]; rw [c10b0]) | skip)
  by_cases c11 : a2.toList = ([115, 110, 97, 112, 46, 116, 109, 112] : List UInt8)
  ·rw [if_pos c11] at H
   have c11b0 : (a2.toList == ([115, 110, 97, 112, 46, 116, 109, 112] : List UInt8)) = true := beq_iff_eq.mpr c11
   have c11b1 : (a2.toList != ([115, 110, 97, 112, 46, 116, 109, 112] : List UInt8)) = false := bne_eq_false_iff_eq.mpr c11
   clear c11
   have H' := a_ H
   clear H
   go_wp2
   go_meet
   case rel => exact ⟨_, (true), fz_, H', ⟨by first | omega | exact Nat.le_refl _⟩, ⟨bk_ BK388⟩, ⟨bk_ BK389⟩, ⟨bl_2 HB GE388 GE389⟩⟩
  rw [if_neg c11] at H
  have c11b0 : (a2.toList == ([115, 110, 97, 112, 46, 116, 109, 112] : List UInt8)) = false := beq_eq_false_iff_ne.mpr c11
  have c11b1 : (a2.toList != ([115, 110, 97, 112, 46, 116, 109, 112] : List UInt8)) = true := bne_iff_ne.mpr c11
  obtain ⟨t391, A120, H⟩ := Option.bind_eq_some_iff.mp H
  try dsimp only at H
  have A12 := a_ A120
  clear A120
  have H' := a_ H
  clear H
  have hnb13 := NB388_389.out
  have hnc13 := NB389_388.out
  obtain ⟨hcz14_0, hcz14_1, hcz14_2, hfz14_0, hfz14_1, hfz14_2⟩ := c3_ BK388
  go_wp2_with (first | (go_at_call 37; (with_reducible refine (disk_Check.calls k _ _ l0_0 a0_1 a0_2 t391 _ ?side1 ?side2 A12.out).mono ?_); (case side1 => exact cl_ (Kd.C_below HR0_0.out HB.out)); (case side2 => exact HC0_0.out); rintro e w15 ⟨rfl, hb⟩; replace BK388 := bB_ BK388 hb; replace BK389 := bB_ BK389 hb; replace HB := hB_ (bl_2 HB GE388 GE389) hb; (try clear hb)))
  go_meet
  case rel => exact ⟨_, ((t391 != 0)), fz_, H', ⟨by first | omega | exact Nat.le_refl _⟩, ⟨bk_ BK388⟩, ⟨bk_ BK389⟩, ⟨bl_2 HB GE388 GE389⟩⟩
 case rest =>
  clear HC6
  try clear c1
  try clear c2
  try clear p2
  try clear c5
  try clear c10
  try clear c10b0
  try clear c10b1
  try clear c11
  try clear c11b0
  try clear c11b1
  try clear c12
  try clear c13
  obtain ⟨kq, x25_5, rfl, HA, HJ5, BK388, BK389, HB⟩ := hcut
  cases kq with
  | zero => exact absurd HA.out (by simp [gafferlaw05_SnapOthers.j0])
  | succ kj5 =>
   have H := HA.out
   clear HA
   simp only [gafferlaw05_SnapOthers.j0] at H
   by_cases c16 : x25_5 = true
   ·subst c16
    have H1 : (some true) = some r := by rw [if_pos rfl] at H; exact H
    clear H
    have H := H1
    clear H1
    obtain rfl := Option.some.inj H
    go_wp2
    go_ret
    exact ⟨fz_, bl_2 HB GE388 GE389⟩
   replace c16 := Bool.eq_false_iff.mpr c16
   subst c16
   have H1 : ((disk_Read.f kj5 l0_0 a0_1 a0_2 a2).bind fun bt392 => ((snap_Save.f kj5 l0_0 a0_1 a0_2 a1_0 a1_1 l1_2 a1_3).bind fun bt394 => ((disk_Read.f kj5 bt394.1 bt394.2.1 bt394.2.2.1 a2).bind fun bt401 => (if bt394.2.2.2 = 8 then (some true) else (if bt392.1.toList = bt401.1.toList then (some (bt392.2 == bt401.2)) else (some false)))))) = some r := by rw [if_neg (show ¬ (false = true) by decide)] at H; exact H
   clear H
   have H := H1
   clear H1
   obtain ⟨⟨t392, t393⟩, A170, H⟩ := Option.bind_eq_some_iff.mp H
   try dsimp only at H
   have A17 := a_ A170
   clear A170
   obtain ⟨⟨t394, t397, t398, t399⟩, A180, H⟩ := Option.bind_eq_some_iff.mp H
   try dsimp only at H
   have A18 := a_ A180
   clear A180
   obtain ⟨⟨t401, t402⟩, A190, H⟩ := Option.bind_eq_some_iff.mp H
   try dsimp only at H
   have A19 := a_ A190
   clear A190
   by_cases c20 : t399 = 8
   ·rw [if_pos c20] at H
    have c20b0 : (t399 == 8) = true := beq_iff_eq.mpr c20
    have c20b1 : (t399 != 8) = false := bne_eq_false_iff_eq.mpr c20
    clear c20
    obtain rfl := Option.some.inj H
    have hnb21 := NB388_389.out
    have hnc21 := NB389_388.out
    obtain ⟨hcz22_0, hcz22_1, hcz22_2, hfz22_0, hfz22_1, hfz22_2⟩ := c3_ BK388
    go_wp2_with (first | ((with_reducible refine gk_ 24 ?_); refine gl_ (some 29) Try.func24 #[.agg #[.slice A0_0 l0_0.length c0_0, .bool a0_1, .int .i64 a0_2], .string a2] ?_; (with_reducible refine (disk_Read.calls kj5 _ _ l0_0 a0_1 a0_2 a2 t392 t393 _ ?side1 ?side2 A17.out).mono ?_); (case side1 => exact cl_ (Kd.C_below HR0_0.out HB.out)); (case side2 => exact HC0_0.out); rintro e w23 ⟨rfl, hb⟩; refine ⟨_, rfl, ?_⟩; replace BK388 := bB_ BK388 hb; replace BK389 := bB_ BK389 hb; replace HB := hB_ (bl_2 HB GE388 GE389) hb; (try clear hb); obtain ⟨hcz24_0, hcz24_1, hcz24_2, hfz24_0, hfz24_1, hfz24_2⟩ := c3_ BK388; obtain ⟨hcz25_0, hcz25_1, hcz25_2, hcz25_3, hfz25_0, hfz25_1, hfz25_2, hfz25_3⟩ := c4_ BK389) | ((with_reducible refine gk_ 35 ?_); refine gl_ (some 35) Try.func35 #[.agg #[.slice A0_0 l0_0.length c0_0, .bool a0_1, .int .i64 a0_2], .agg #[.int .u64 a1_0, .int .u64 a1_1, .slice A1_2 l1_2.length c1_2, .string a1_3]] ?_; (with_reducible refine (snap_Save.calls kj5 _ _ l0_0 a0_1 a0_2 a1_0 a1_1 _ _ l1_2 a1_3 t394 t397 t398 t399 _ ?side1 ?side2 ?side3 ?side4 A18.out).mono ?_); (case side1 => exact cl_ (Kd.C_below HR0_0.out HB.out)); (case side2 => exact HC0_0.out); (case side3 => exact cl_ (Kd.C_below HR1_2.out HB.out)); (case side4 => exact HC1_2.out); rintro e w26 ⟨v395, rfl, ho0, hb⟩; refine ⟨_, rfl, ?_⟩; have HO396 := a_ (Kd.R_lower ho0 (below_size (bl_2 HB GE388 GE389))); replace BK388 := bB_ BK388 hb; replace BK389 := bB_ BK389 hb; replace HB := hB_ (bl_2 HB GE388 GE389) hb; (try clear hb); (try clear ho0)) | ((with_reducible refine gd_ 9 ?_); refine bx_ 9 #[.slice none 0 0, .bool false, .int .i64 0] 24 ?_; intro gb400 hg w27 hbox hb; replace HO396 := a_ (Kd.R_below (by refine rq_ ?_; exact HO396.out) hb); have BK400 := a_ (hbox); have GE400 := a_ (bs_2 hg HB GE388 GE389); replace HB := hB_ (bl_2 HB GE388 GE389) hb; have NB388_400 := nB_ hg BK388; have NB400_388 := nC_ hg BK388; replace BK388 := bB_ BK388 hb; have NB389_400 := nB_ hg BK389; have NB400_389 := nC_ hg BK389; replace BK389 := bB_ BK389 hb; clear hb hbox hg; obtain ⟨Ao28, co28, eo28⟩ := Kd.R_slice HO396.out; subst eo28; have hnb29 := NB400_388.out; have hnc29 := NB388_400.out; have hnb30 := NB400_389.out; have hnc30 := NB389_400.out; obtain ⟨hcz31_0, hcz31_1, hcz31_2, hfz31_0, hfz31_1, hfz31_2⟩ := c3_ BK400) | ((with_reducible refine gk_ 24 ?_); refine gl_ (some 41) Try.func24 #[.agg #[.slice Ao28 t394.length co28, .bool t397, .int .i64 t398], .string a2] ?_; (with_reducible refine (disk_Read.calls kj5 _ _ t394 t397 t398 a2 t401 t402 _ ?side1 ?side2 A19.out).mono ?_); (case side1 => refine (Kd.R_reads' (e := 71) (base := w.heap.size) (ok := fun k_ => True) (n := t394.length) (c := co28) ?_).2.2; exact (by refine rq_ ?_; exact (Kd.R_mono (Kd.R_far (p := ⟨gb400, 2, none⟩) (Kd.R_far (p := ⟨gb400, 1, none⟩) (Kd.R_far (p := ⟨gb400, 0, none⟩) (Kd.R_types HO396.out BK400.out (by decide)) (fun _ hk => hk.2) (.slice Ao28 t394.length co28)) (fun _ hk => hk.2) (.bool t397)) (fun _ hk => hk.2) (.int .i64 t398)) (fun _ h_ => h_.1)))); (case side2 => exact (Kd.R_reads' HO396.out).2.1); rintro e w32 ⟨rfl, hb⟩; refine ⟨_, rfl, ?_⟩; replace HO396 := a_ (Kd.R_below (by refine rq_ ?_; exact (Kd.R_mono (Kd.R_far (p := ⟨gb400, 2, none⟩) (Kd.R_far (p := ⟨gb400, 1, none⟩) (Kd.R_far (p := ⟨gb400, 0, none⟩) (Kd.R_types HO396.out BK400.out (by decide)) (fun _ hk => hk.2) (.slice Ao28 t394.length co28)) (fun _ hk => hk.2) (.bool t397)) (fun _ hk => hk.2) (.int .i64 t398)) (fun _ h_ => h_.1))) hb); replace BK388 := a_ (blk_below (g := gb388) (o := .cells #[.slice A0_0 l0_0.length c0_0, .bool a0_1, .int .i64 a0_2] 24 (0, 0)) (bp_1 BK388 NB388_400) hb); replace BK389 := a_ (blk_below (g := gb389) (o := .cells #[.int .u64 a1_0, .int .u64 a1_1, .slice A1_2 l1_2.length c1_2, .string a1_3] 48 (0, 0)) (bp_1 BK389 NB389_400) hb); replace BK400 := a_ (blk_below (g := gb400) (o := .cells #[.slice Ao28 t394.length co28, .bool t397, .int .i64 t398] 24 (0, 0)) (bp_0 BK400) hb); replace HB := hB_ (bl_3 HB GE388 GE389 GE400) hb; (try clear hb)))
    go_ret
    exact ⟨fz_, bl_3 HB GE388 GE389 GE400⟩
   rw [if_neg c20] at H
   have c20b0 : (t399 == 8) = false := beq_eq_false_iff_ne.mpr c20
   have c20b1 : (t399 != 8) = true := bne_iff_ne.mpr c20
   by_cases c33 : t392.toList = t401.toList
   rotate_left
   ·rw [if_neg c33] at H
    have c33b0 : (t392.toList == t401.toList) = false := beq_eq_false_iff_ne.mpr c33
    have c33b1 : (t392.toList != t401.toList) = true := bne_iff_ne.mpr c33
    exact absurd (H.trans (congrArg some hr)) (by simp)
   rw [if_pos c33] at H
   have c33b0 : (t392.toList == t401.toList) = true := beq_iff_eq.mpr c33
   have c33b1 : (t392.toList != t401.toList) = false := bne_eq_false_iff_eq.mpr c33
   clear c33
   obtain rfl := Option.some.inj H
   have hnb34 := NB388_389.out
   have hnc34 := NB389_388.out
   obtain ⟨hcz35_0, hcz35_1, hcz35_2, hfz35_0, hfz35_1, hfz35_2⟩ := c3_ BK388
   go_wp2_with (first | ((with_reducible refine gk_ 24 ?_); refine gl_ (some 29) Try.func24 #[.agg #[.slice A0_0 l0_0.length c0_0, .bool a0_1, .int .i64 a0_2], .string a2] ?_; (with_reducible refine (disk_Read.calls kj5 _ _ l0_0 a0_1 a0_2 a2 t392 t393 _ ?side1 ?side2 A17.out).mono ?_); (case side1 => exact cl_ (Kd.C_below HR0_0.out HB.out)); (case side2 => exact HC0_0.out); rintro e w36 ⟨rfl, hb⟩; refine ⟨_, rfl, ?_⟩; replace BK388 := bB_ BK388 hb; replace BK389 := bB_ BK389 hb; replace HB := hB_ (bl_2 HB GE388 GE389) hb; (try clear hb); obtain ⟨hcz37_0, hcz37_1, hcz37_2, hfz37_0, hfz37_1, hfz37_2⟩ := c3_ BK388; obtain ⟨hcz38_0, hcz38_1, hcz38_2, hcz38_3, hfz38_0, hfz38_1, hfz38_2, hfz38_3⟩ := c4_ BK389) | ((with_reducible refine gk_ 35 ?_); refine gl_ (some 35) Try.func35 #[.agg #[.slice A0_0 l0_0.length c0_0, .bool a0_1, .int .i64 a0_2], .agg #[.int .u64 a1_0, .int .u64 a1_1, .slice A1_2 l1_2.length c1_2, .string a1_3]] ?_; (with_reducible refine (snap_Save.calls kj5 _ _ l0_0 a0_1 a0_2 a1_0 a1_1 _ _ l1_2 a1_3 t394 t397 t398 t399 _ ?side1 ?side2 ?side3 ?side4 A18.out).mono ?_); (case side1 => exact cl_ (Kd.C_below HR0_0.out HB.out)); (case side2 => exact HC0_0.out); (case side3 => exact cl_ (Kd.C_below HR1_2.out HB.out)); (case side4 => exact HC1_2.out); rintro e w39 ⟨v395, rfl, ho0, hb⟩; refine ⟨_, rfl, ?_⟩; have HO396 := a_ (Kd.R_lower ho0 (below_size (bl_2 HB GE388 GE389))); replace BK388 := bB_ BK388 hb; replace BK389 := bB_ BK389 hb; replace HB := hB_ (bl_2 HB GE388 GE389) hb; (try clear hb); (try clear ho0)) | ((with_reducible refine gd_ 9 ?_); refine bx_ 9 #[.slice none 0 0, .bool false, .int .i64 0] 24 ?_; intro gb400 hg w40 hbox hb; replace HO396 := a_ (Kd.R_below (by refine rq_ ?_; exact HO396.out) hb); have BK400 := a_ (hbox); have GE400 := a_ (bs_2 hg HB GE388 GE389); replace HB := hB_ (bl_2 HB GE388 GE389) hb; have NB388_400 := nB_ hg BK388; have NB400_388 := nC_ hg BK388; replace BK388 := bB_ BK388 hb; have NB389_400 := nB_ hg BK389; have NB400_389 := nC_ hg BK389; replace BK389 := bB_ BK389 hb; clear hb hbox hg; obtain ⟨Ao41, co41, eo41⟩ := Kd.R_slice HO396.out; subst eo41; have hnb42 := NB400_388.out; have hnc42 := NB388_400.out; have hnb43 := NB400_389.out; have hnc43 := NB389_400.out; obtain ⟨hcz44_0, hcz44_1, hcz44_2, hfz44_0, hfz44_1, hfz44_2⟩ := c3_ BK400) | ((with_reducible refine gk_ 24 ?_); refine gl_ (some 41) Try.func24 #[.agg #[.slice Ao41 t394.length co41, .bool t397, .int .i64 t398], .string a2] ?_; (with_reducible refine (disk_Read.calls kj5 _ _ t394 t397 t398 a2 t401 t402 _ ?side1 ?side2 A19.out).mono ?_); (case side1 => refine (Kd.R_reads' (e := 71) (base := w.heap.size) (ok := fun k_ => True) (n := t394.length) (c := co41) ?_).2.2; exact (by refine rq_ ?_; exact (Kd.R_mono (Kd.R_far (p := ⟨gb400, 2, none⟩) (Kd.R_far (p := ⟨gb400, 1, none⟩) (Kd.R_far (p := ⟨gb400, 0, none⟩) (Kd.R_types HO396.out BK400.out (by decide)) (fun _ hk => hk.2) (.slice Ao41 t394.length co41)) (fun _ hk => hk.2) (.bool t397)) (fun _ hk => hk.2) (.int .i64 t398)) (fun _ h_ => h_.1)))); (case side2 => exact (Kd.R_reads' HO396.out).2.1); rintro e w45 ⟨rfl, hb⟩; refine ⟨_, rfl, ?_⟩; replace HO396 := a_ (Kd.R_below (by refine rq_ ?_; exact (Kd.R_mono (Kd.R_far (p := ⟨gb400, 2, none⟩) (Kd.R_far (p := ⟨gb400, 1, none⟩) (Kd.R_far (p := ⟨gb400, 0, none⟩) (Kd.R_types HO396.out BK400.out (by decide)) (fun _ hk => hk.2) (.slice Ao41 t394.length co41)) (fun _ hk => hk.2) (.bool t397)) (fun _ hk => hk.2) (.int .i64 t398)) (fun _ h_ => h_.1))) hb); replace BK388 := a_ (blk_below (g := gb388) (o := .cells #[.slice A0_0 l0_0.length c0_0, .bool a0_1, .int .i64 a0_2] 24 (0, 0)) (bp_1 BK388 NB388_400) hb); replace BK389 := a_ (blk_below (g := gb389) (o := .cells #[.int .u64 a1_0, .int .u64 a1_1, .slice A1_2 l1_2.length c1_2, .string a1_3] 48 (0, 0)) (bp_1 BK389 NB389_400) hb); replace BK400 := a_ (blk_below (g := gb400) (o := .cells #[.slice Ao41 t394.length co41, .bool t397, .int .i64 t398] 24 (0, 0)) (bp_0 BK400) hb); replace HB := hB_ (bl_3 HB GE388 GE389 GE400) hb; (try clear hb)))
   go_ret
   exact ⟨fz_, bl_3 HB GE388 GE389 GE400⟩
/-- THE ONE PURE STATEMENT of gafferlaw05_SnapOthers: yours. -/
def gafferlaw05_SnapOthers.Pure : Prop := ∀ (x0 : S24) (x1 : S48) (x2 : ByteArray), ok24 x0 → ok48 x1 → okStr x2 → ∃ k, gafferlaw05_SnapOthers.f k x0.f0 x0.f1 x0.f2 x1.f0 x1.f1 x1.f2 x1.f3 x2 = some true

/-! ### gafferref02_Same: function 20 -/
mutual
def gafferref02_Same.j0 : Nat → Bool → List (S71) → Bool → Int → List (S71) → Bool → Int → Option (Bool)
 | 0, _, _, _, _, _, _, _ => none
 | k + 1, x26, x404000, x404001, x404002, x405000, x405001, x405002 => if x26 = true then (some false) else (gafferref02_Same.l0 k (x404000.length : Int) 0 x404000 x404001 x404002 x405000 x405001 x405002)
def gafferref02_Same.l0 : Nat → Int → Int → List (S71) → Bool → Int → List (S71) → Bool → Int → Option (Bool)
 | 0, _, _, _, _, _, _, _, _ => none
 | k + 1, x29, x30, x404000, x404001, x404002, x405000, x405001, x405002 => if x30 < x29 then (if 0 ≤ x30 then (if x30 < (x404000.length : Int) then (if x30 < (x405000.length : Int) then (if (!((((rd_T71 x404000 x30).f0).toList) == (((rd_T71 x405000 x30).f0).toList)) || (!((((rd_T71 x404000 x30).f1).toList) == (((rd_T71 x405000 x30).f1).toList)) || (!(((rd_T71 x404000 x30).f2) == ((rd_T71 x405000 x30).f2))))) = true then (some false) else (gafferref02_Same.l0 k x29 (wrap64 (x30 + 1)) x404000 x404001 x404002 x405000 x405001 x405002)) else (none)) else (none)) else (none)) else (some true)
end
def gafferref02_Same.f (k : Nat) (l0_0 : List (S71)) (a0_1 : Bool) (a0_2 : Int) (l1_0 : List (S71)) (a1_1 : Bool) (a1_2 : Int) : Option (Bool) := if (a0_1 != a1_1) = true then (gafferref02_Same.j0 k true l0_0 a0_1 a0_2 l1_0 a1_1 a1_2) else (if a0_2 = a1_2 then (gafferref02_Same.j0 k ((l0_0.length : Int) != (l1_0.length : Int)) l0_0 a0_1 a0_2 l1_0 a1_1 a1_2) else (gafferref02_Same.j0 k true l0_0 a0_1 a0_2 l1_0 a1_1 a1_2))
theorem gafferref02_Same.mono_l : ∀ k, (∀ y0 y1 y2 y3 y4 y5 y6, LeO (gafferref02_Same.j0 k y0 y1 y2 y3 y4 y5 y6) (gafferref02_Same.j0 (k + 1) y0 y1 y2 y3 y4 y5 y6)) ∧ (∀ y0 y1 y2 y3 y4 y5 y6 y7, LeO (gafferref02_Same.l0 k y0 y1 y2 y3 y4 y5 y6 y7) (gafferref02_Same.l0 (k + 1) y0 y1 y2 y3 y4 y5 y6 y7))
 | 0 => ⟨fun _ _ _ _ _ _ _ r h => by simp [gafferref02_Same.j0] at h, fun _ _ _ _ _ _ _ _ r h => by simp [gafferref02_Same.l0] at h⟩
 | k + 1 => by
  obtain ⟨ih0, ih1⟩ := gafferref02_Same.mono_l k
  refine ⟨?_, ?_⟩
  ·intro y0 y1 y2 y3 y4 y5 y6
   unfold gafferref02_Same.j0
   repeat' with_reducible first | exact ih0 _ _ _ _ _ _ _ | exact ih1 _ _ _ _ _ _ _ _ | exact LeO.refl _ | exact LeO.none _ | refine LeO.ite ?_ ?_ | refine LeO.bind ?_ (fun _ => ?_)
  ·intro y0 y1 y2 y3 y4 y5 y6 y7
   unfold gafferref02_Same.l0
   repeat' with_reducible first | exact ih0 _ _ _ _ _ _ _ | exact ih1 _ _ _ _ _ _ _ _ | exact LeO.refl _ | exact LeO.none _ | refine LeO.ite ?_ ?_ | refine LeO.bind ?_ (fun _ => ?_)
theorem gafferref02_Same.mono : ∀ a0 a1 a2 a3 a4 a5 k, LeO (gafferref02_Same.f k a0 a1 a2 a3 a4 a5) (gafferref02_Same.f (k + 1) a0 a1 a2 a3 a4 a5) := by
 intro a0 a1 a2 a3 a4 a5 k
 obtain ⟨ih0, ih1⟩ := gafferref02_Same.mono_l k
 unfold gafferref02_Same.f
 repeat' with_reducible first | exact ih0 _ _ _ _ _ _ _ | exact ih1 _ _ _ _ _ _ _ _ | exact LeO.refl _ | exact LeO.none _ | refine LeO.ite ?_ ?_ | refine LeO.bind ?_ (fun _ => ?_)
theorem gafferref02_Same.calls (k : Nat) (A0_0 : Option Addr) (c0_0 : Nat) (l0_0 : List (S71)) (a0_1 : Bool) (a0_2 : Int) (A1_0 : Option Addr) (c1_0 : Nat) (l1_0 : List (S71)) (a1_1 : Bool) (a1_2 : Int) (r : Bool) (w : World) (hr0_0 : Kd.C k71 w A0_0 l0_0.length l0_0) (hc0_0 : l0_0.length ≤ c0_0) (hr1_0 : Kd.C k71 w A1_0 l1_0.length l1_0) (hc1_0 : l1_0.length ≤ c1_0) (h : gafferref02_Same.f k l0_0 a0_1 a0_2 l1_0 a1_1 a1_2 = some r) :
  Calls Try.prog 20 #[.agg #[.slice A0_0 l0_0.length c0_0, .bool a0_1, .int .i64 a0_2], .agg #[.slice A1_0 l1_0.length c1_0, .bool a1_1, .int .i64 a1_2]] w fun e w' => e = .returned (.bool r) ∧ Below w.heap.size w w' := by
 have hu24 := Try.underlying24
 have hu71 := Try.underlying71
 have HR0_0 := a_ hr0_0
 have HC0_0 := a_ hc0_0
 clear hr0_0 hc0_0
 have HR1_0 := a_ hr1_0
 have HC1_0 := a_ hc1_0
 clear hr1_0 hc1_0
 have HB := a_ (Below.refl w.heap.size w)
 have H : (if (a0_1 != a1_1) = true then (gafferref02_Same.j0 k true l0_0 a0_1 a0_2 l1_0 a1_1 a1_2) else (if a0_2 = a1_2 then (gafferref02_Same.j0 k ((l0_0.length : Int) != (l1_0.length : Int)) l0_0 a0_1 a0_2 l1_0 a1_1 a1_2) else (gafferref02_Same.j0 k true l0_0 a0_1 a0_2 l1_0 a1_1 a1_2))) = some r := h
 clear h
 have HC3 := a_ H
 clear H
 go_enter Try.func20, Try.ntmps20
 go_upto_region 1 with (first | ((with_reducible refine gd_ 2 ?_); (try (refine gate_guard (by rfl) ?_; dsimp only)); refine bx_ 2 #[.slice A0_0 l0_0.length c0_0, .bool a0_1, .int .i64 a0_2] 24 ?_; intro gb403 hg w4 hbox hb; have BK403 := a_ (hbox); have GE403 := a_ (bs_0 hg HB); replace HB := hB_ (bl_ HB) hb; clear hb hbox hg) | ((with_reducible refine gd_ 3 ?_); (try (refine gate_guard (by rfl) ?_; dsimp only)); refine bx_ 3 #[.slice A1_0 l1_0.length c1_0, .bool a1_1, .int .i64 a1_2] 24 ?_; intro gb404 hg w5 hbox hb; have BK404 := a_ (hbox); have GE404 := a_ (bs_1 hg HB GE403); replace HB := hB_ (bl_1 HB GE403) hb; have NB403_404 := nB_ hg BK403; have NB404_403 := nC_ hg BK403; replace BK403 := bB_ BK403 hb; clear hb hbox hg))
 repeat (go_quiet (first | ((with_reducible refine gd_ 2 ?_); (try (refine gate_guard (by rfl) ?_; dsimp only)); refine bx_ 2 #[.slice A0_0 l0_0.length c0_0, .bool a0_1, .int .i64 a0_2] 24 ?_; intro gb403 hg w4 hbox hb; have BK403 := a_ (hbox); have GE403 := a_ (bs_0 hg HB); replace HB := hB_ (bl_ HB) hb; clear hb hbox hg) | ((with_reducible refine gd_ 3 ?_); (try (refine gate_guard (by rfl) ?_; dsimp only)); refine bx_ 3 #[.slice A1_0 l1_0.length c1_0, .bool a1_1, .int .i64 a1_2] 24 ?_; intro gb404 hg w5 hbox hb; have BK404 := a_ (hbox); have GE404 := a_ (bs_1 hg HB GE403); replace HB := hB_ (bl_1 HB GE403) hb; have NB403_404 := nB_ hg BK403; have NB404_403 := nC_ hg BK403; replace BK403 := bB_ BK403 hb; clear hb hbox hg)); go_upto_region 1 with (first | ((with_reducible refine gd_ 2 ?_); (try (refine gate_guard (by rfl) ?_; dsimp only)); refine bx_ 2 #[.slice A0_0 l0_0.length c0_0, .bool a0_1, .int .i64 a0_2] 24 ?_; intro gb403 hg w4 hbox hb; have BK403 := a_ (hbox); have GE403 := a_ (bs_0 hg HB); replace HB := hB_ (bl_ HB) hb; clear hb hbox hg) | ((with_reducible refine gd_ 3 ?_); (try (refine gate_guard (by rfl) ?_; dsimp only)); refine bx_ 3 #[.slice A1_0 l1_0.length c1_0, .bool a1_1, .int .i64 a1_2] 24 ?_; intro gb404 hg w5 hbox hb; have BK404 := a_ (hbox); have GE404 := a_ (bs_1 hg HB GE403); replace HB := hB_ (bl_1 HB GE403) hb; have NB403_404 := nB_ hg BK403; have NB404_403 := nC_ hg BK403; replace BK403 := bB_ BK403 hb; clear hb hbox hg)))
 (try simp only [Act.put, List.setIfInBounds_toArray, List.set_cons_zero, List.set_cons_succ])
 go_cut [26] (fun v26 wc => ∃ (kq : Nat) (x26_2 : Bool), v26 = .bool x26_2 ∧ Aside0 (gafferref02_Same.j0 kq x26_2 l0_0 a0_1 a0_2 l1_0 a1_1 a1_2 = some r) ∧ Aside0 (kq ≤ k) ∧ Aside0 (wc.heap[gb403]? = some (.cells #[(.slice A0_0 l0_0.length c0_0), .bool a0_1, .int .i64 a0_2] 24 (0, 0))) ∧ Aside0 (wc.heap[gb404]? = some (.cells #[(.slice A1_0 l1_0.length c1_0), .bool a1_1, .int .i64 a1_2] 24 (0, 0))) ∧ Aside0 (Below w.heap.size w wc))
 case first =>
  have H := HC3.out
  clear HC3
  by_cases c6 : (a0_1 != a1_1) = true
  ·rw [if_pos c6] at H
   have c6b0 : (a0_1 != a1_1) = true := c6
   (try (have c6b1 : decide (a0_1 = a1_1) = false := by simpa using c6))
   (try (have c6b2 : (a0_1 == a1_1) = false := by simpa using c6))
   (try (have c6b3 : ¬ (a0_1 = a1_1) := by simpa using c6))
   clear c6
   (first | rw [c6b0] | (simp only [i64_w, i32_w]; rw [c6b0]) | skip)
   have H' := a_ H
   clear H
   have hnb7 := NB403_404.out
   have hnc7 := NB404_403.out
   obtain ⟨hcz8_0, hcz8_1, hcz8_2, hfz8_0, hfz8_1, hfz8_2⟩ := c3_ BK403
   obtain ⟨hcz9_0, hcz9_1, hcz9_2, hfz9_0, hfz9_1, hfz9_2⟩ := c3_ BK404
   go_wp2
   repeat (go_quiet (fail); try go_wp2)
   go_meet
   case rel => exact ⟨_, (true), fz_, H', ⟨by first | omega | exact Nat.le_refl _⟩, ⟨bk_ BK403⟩, ⟨bk_ BK404⟩, ⟨bl_2 HB GE403 GE404⟩⟩
  rw [if_neg c6] at H
  have c6b0 : (a0_1 != a1_1) = false := by simpa using c6
  (try (have c6b1 : decide (a0_1 = a1_1) = true := by simpa using c6))
  (try (have c6b2 : (a0_1 == a1_1) = true := by simpa using c6))
  clear c6
  (first | rw [c6b0] | (simp only [i64_w, i32_w]; rw [c6b0]) | skip)
  by_cases c10 : a0_2 = a1_2
  rotate_left
  ·rw [if_neg c10] at H
   have c10b0 : (a0_2 == a1_2) = false := beq_eq_false_iff_ne.mpr c10
   have c10b1 : (a0_2 != a1_2) = true := bne_iff_ne.mpr c10
   have H' := a_ H
   clear H
   have hnb14 := NB403_404.out
   have hnc14 := NB404_403.out
   obtain ⟨hcz15_0, hcz15_1, hcz15_2, hfz15_0, hfz15_1, hfz15_2⟩ := c3_ BK403
   obtain ⟨hcz16_0, hcz16_1, hcz16_2, hfz16_0, hfz16_1, hfz16_2⟩ := c3_ BK404
   go_wp2
   repeat (go_quiet (fail); try go_wp2)
   go_meet
   case rel => exact ⟨_, (true), fz_, H', ⟨by first | omega | exact Nat.le_refl _⟩, ⟨bk_ BK403⟩, ⟨bk_ BK404⟩, ⟨bl_2 HB GE403 GE404⟩⟩
  rw [if_pos c10] at H
  have c10b0 : (a0_2 == a1_2) = true := beq_iff_eq.mpr c10
  have c10b1 : (a0_2 != a1_2) = false := bne_eq_false_iff_eq.mpr c10
  clear c10
  have H' := a_ H
  clear H
  have hnb11 := NB403_404.out
  have hnc11 := NB404_403.out
  obtain ⟨hcz12_0, hcz12_1, hcz12_2, hfz12_0, hfz12_1, hfz12_2⟩ := c3_ BK403
  obtain ⟨hcz13_0, hcz13_1, hcz13_2, hfz13_0, hfz13_1, hfz13_2⟩ := c3_ BK404
  go_wp2
  repeat (go_quiet (fail); try go_wp2)
  go_meet
  case rel => exact ⟨_, (((l0_0.length : Int) != (l1_0.length : Int))), fz_, H', ⟨by first | omega | exact Nat.le_refl _⟩, ⟨bk_ BK403⟩, ⟨bk_ BK404⟩, ⟨bl_2 HB GE403 GE404⟩⟩
 case rest =>
  clear HC3
  try clear c1
  try clear c2
  try clear p2
  try clear c6
  try clear c6b0
  try clear c6b1
  try clear c6b2
  try clear c7
  try clear c10
  try clear c10b0
  try clear c10b1
  try clear c11
  try clear c14
  obtain ⟨kq, x26_2, rfl, HA, HJ2, BK403, BK404, HB⟩ := hcut
  cases kq with
  | zero => exact absurd HA.out (by simp [gafferref02_Same.j0])
  | succ kj2 =>
   have H := HA.out
   clear HA
   simp only [gafferref02_Same.j0] at H
   by_cases c17 : x26_2 = true
   ·subst c17
    have H1 : (some false) = some r := by rw [if_pos rfl] at H; exact H
    clear H
    have H := H1
    clear H1
    obtain rfl := Option.some.inj H
    go_wp2
    repeat (go_quiet (fail); try go_wp2)
    go_ret
    exact ⟨fz_, bl_2 HB GE403 GE404⟩
   replace c17 := Bool.eq_false_iff.mpr c17
   subst c17
   have H1 : (gafferref02_Same.l0 kj2 (l0_0.length : Int) 0 l0_0 a0_1 a0_2 l1_0 a1_1 a1_2) = some r := by rw [if_neg (show ¬ (false = true) by decide)] at H; exact H
   clear H
   have H := H1
   clear H1
   have H' := a_ H
   clear H
   have hnb18 := NB403_404.out
   have hnc18 := NB404_403.out
   obtain ⟨hcz19_0, hcz19_1, hcz19_2, hfz19_0, hfz19_1, hfz19_2⟩ := c3_ BK403
   go_wp2
   repeat (go_quiet (fail); try go_wp2)
   go_loopg [30] kj2 (fun kq v30 w' => ∃ (x30_2 : Int), v30 = .int .i64 x30_2 ∧ Aside0 (gafferref02_Same.l0 kq (l0_0.length : Int) x30_2 l0_0 a0_1 a0_2 l1_0 a1_1 a1_2 = some r) ∧ Aside0 (kq ≤ kj2) ∧ Aside0 (w'.heap[gb403]? = some (.cells #[(.slice A0_0 l0_0.length c0_0), .bool a0_1, .int .i64 a0_2] 24 (0, 0))) ∧ Aside0 (w'.heap[gb404]? = some (.cells #[(.slice A1_0 l1_0.length c1_0), .bool a1_1, .int .i64 a1_2] 24 (0, 0))) ∧ Aside0 (Below w.heap.size w w'))
   case atStart => exact ⟨(0), fz_, H', ⟨Nat.le_refl _⟩, ⟨bk_ BK403⟩, ⟨bk_ BK404⟩, ⟨bl_2 HB GE403 GE404⟩⟩
   case round =>
    clear H'
    try clear c1
    try clear c2
    try clear p2
    try clear c6
    try clear c6b0
    try clear c6b1
    try clear c6b2
    try clear c7
    try clear c10
    try clear c10b0
    try clear c10b1
    try clear c11
    try clear c14
    try clear c17
    try clear c18
    try clear p2
    obtain ⟨x30_2, rfl, HA, HK2, BK403, BK404, HB⟩ := hrel
    cases gk with
    | zero => exact absurd HA.out (by simp [gafferref02_Same.l0])
    | succ k2 =>
     have H := HA.out
     clear HA
     simp only [gafferref02_Same.l0] at H
     by_cases c20 : x30_2 < (l0_0.length : Int)
     rotate_left
     ·rw [if_neg c20] at H
      have c20b0 : decide (x30_2 < (l0_0.length : Int)) = false := decide_eq_false c20
      clear c20
      obtain rfl := Option.some.inj H
      go_wp2
      repeat (go_quiet (fail); try go_wp2)
      go_ret
      exact ⟨fz_, bl_2 HB GE403 GE404⟩


     rw [if_pos c20] at H
     have c20b0 : decide (x30_2 < (l0_0.length : Int)) = true := decide_eq_true c20
     clear c20
     by_cases c21 : 0 ≤ x30_2
     rotate_left
     ·rw [if_neg c21] at H
      exact absurd H (by simp)
     rw [if_pos c21] at H
     have c21b0 : decide (0 ≤ x30_2) = true := decide_eq_true c21
     clear c21
     by_cases c22 : x30_2 < (l0_0.length : Int)
     rotate_left
     ·rw [if_neg c22] at H
      exact absurd H (by simp)
     rw [if_pos c22] at H
     have c22b0 : decide (x30_2 < (l0_0.length : Int)) = true := decide_eq_true c22
     clear c22
     by_cases c23 : x30_2 < (l1_0.length : Int)
     rotate_left
     ·rw [if_neg c23] at H
      exact absurd H (by simp)
     rw [if_pos c23] at H
     have c23b0 : decide (x30_2 < (l1_0.length : Int)) = true := decide_eq_true c23
     clear c23
     by_cases c24 : (!((((rd_T71 l0_0 x30_2).f0).toList) == (((rd_T71 l1_0 x30_2).f0).toList)) || (!((((rd_T71 l0_0 x30_2).f1).toList) == (((rd_T71 l1_0 x30_2).f1).toList)) || (!(((rd_T71 l0_0 x30_2).f2) == ((rd_T71 l1_0 x30_2).f2))))) = true
     ·rw [if_pos c24] at H
      have c24b0 : (!((((rd_T71 l0_0 x30_2).f0).toList) == (((rd_T71 l1_0 x30_2).f0).toList)) || (!((((rd_T71 l0_0 x30_2).f1).toList) == (((rd_T71 l1_0 x30_2).f1).toList)) || (!(((rd_T71 l0_0 x30_2).f2) == ((rd_T71 l1_0 x30_2).f2))))) = true := c24
      clear c24
      obtain rfl := Option.some.inj H
      have hnb25 := NB403_404.out
      have hnc25 := NB404_403.out
      obtain ⟨hcz26_0, hcz26_1, hcz26_2, hfz26_0, hfz26_1, hfz26_2⟩ := c3_ BK403
      have p405 : 0 ≤ (x30_2 : Int) := od_
      have q405 : x30_2 < (l0_0.length : Int) := od_
      obtain ⟨ad405, e405, hx405_0, hx405_1, hx405_2⟩ := at_T71 HR0_0.out x30_2 p405 q405
      cases e405
      replace hx405_0 := hc_ HB hx405_0
      replace hx405_1 := hc_ HB hx405_1
      replace hx405_2 := hc_ HB hx405_2
      replace p405 := eq_true p405
      replace q405 := eq_true q405
      obtain ⟨hcz27_0, hcz27_1, hcz27_2, hfz27_0, hfz27_1, hfz27_2⟩ := c3_ BK404
      have p406 : 0 ≤ (x30_2 : Int) := od_
      have q406 : x30_2 < (l1_0.length : Int) := od_
      obtain ⟨ad406, e406, hx406_0, hx406_1, hx406_2⟩ := at_T71 HR1_0.out x30_2 p406 q406
      cases e406
      replace hx406_0 := hc_ HB hx406_0
      replace hx406_1 := hc_ HB hx406_1
      replace hx406_2 := hc_ HB hx406_2
      replace p406 := eq_true p406
      replace q406 := eq_true q406
      go_wp2
      repeat (go_quiet (fail); try go_wp2)
      go_ret
      exact ⟨fz_, bl_2 HB GE403 GE404⟩
     rw [if_neg c24] at H
     have c24b0 : (!((((rd_T71 l0_0 x30_2).f0).toList) == (((rd_T71 l1_0 x30_2).f0).toList)) || (!((((rd_T71 l0_0 x30_2).f1).toList) == (((rd_T71 l1_0 x30_2).f1).toList)) || (!(((rd_T71 l0_0 x30_2).f2) == ((rd_T71 l1_0 x30_2).f2))))) = false := by simpa using c24
     clear c24
     have H' := a_ H
     clear H
     have hnb28 := NB403_404.out
     have hnc28 := NB404_403.out
     obtain ⟨hcz29_0, hcz29_1, hcz29_2, hfz29_0, hfz29_1, hfz29_2⟩ := c3_ BK403
     have p405 : 0 ≤ (x30_2 : Int) := od_
     have q405 : x30_2 < (l0_0.length : Int) := od_
     obtain ⟨ad405, e405, hx405_0, hx405_1, hx405_2⟩ := at_T71 HR0_0.out x30_2 p405 q405
     cases e405
     replace hx405_0 := hc_ HB hx405_0
     replace hx405_1 := hc_ HB hx405_1
     replace hx405_2 := hc_ HB hx405_2
     replace p405 := eq_true p405
     replace q405 := eq_true q405
     obtain ⟨hcz30_0, hcz30_1, hcz30_2, hfz30_0, hfz30_1, hfz30_2⟩ := c3_ BK404
     have p406 : 0 ≤ (x30_2 : Int) := od_
     have q406 : x30_2 < (l1_0.length : Int) := od_
     obtain ⟨ad406, e406, hx406_0, hx406_1, hx406_2⟩ := at_T71 HR1_0.out x30_2 p406 q406
     cases e406
     replace hx406_0 := hc_ HB hx406_0
     replace hx406_1 := hc_ HB hx406_1
     replace hx406_2 := hc_ HB hx406_2
     replace p406 := eq_true p406
     replace q406 := eq_true q406
     go_wp2
     repeat (go_quiet (fail); try go_wp2)
     go_roundg k2
     case measure => have := HJ2.out; have := HK2.out; omega
     case rel => exact ⟨(wrap64 (x30_2 + 1)), fz_, H', ⟨by have := HJ2.out; have := HK2.out; omega⟩, ⟨bk_ BK403⟩, ⟨bk_ BK404⟩, ⟨bl_2 HB GE403 GE404⟩⟩end Go.Proofs.Ytpigjmjbfpipnaa.PE
