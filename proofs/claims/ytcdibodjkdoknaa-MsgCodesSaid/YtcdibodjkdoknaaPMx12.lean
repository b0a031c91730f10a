-- By a program of this session.
import Derived.Test.YtcdibodjkdoknaaPMx0
import Derived.Test.YtcdibodjkdoknaaPMx11
namespace Go.Proofs.Ytcdibodjkdoknaa.PM
open Go.RowKit YtcdibodjkdoknaaW.PrintWords YtcdibodjkdoknaaW.PrintLast YtcdibodjkdoknaaW.PrintMore Sh Ytcdibodjkdoknaa.Op
attribute [local go_sem] max2_int min2_int max_two min_two max_three min_three max_four min_four
set_option linter.unusedVariables false
set_option maxHeartbeats 80000000
set_option maxRecDepth 100000
set_option linter.unusedSimpArgs false

def pack_TakeText.f (k : Nat) (a0 : ByteArray) : Option (ByteArray × ByteArray × Int) := (pack_TakeNumber.f k a0).bind fun bt221 => (if bt221.2.2 = 0 then (if bt221.1 > 65536 then (some ((⟨#[]⟩ : ByteArray), (⟨#[]⟩ : ByteArray), 2)) else (if bt221.1 > (IntKind.u64.wrap ((bt221.2.1.size : Int))) then (some ((⟨#[]⟩ : ByteArray), (⟨#[]⟩ : ByteArray), 3)) else (if 0 ≤ bt221.1 then (if bt221.1 ≤ (bt221.2.1.size : Int) then (some (bt221.2.1.extract 0 (bt221.1 : Int).toNat, bt221.2.1.extract (bt221.1 : Int).toNat bt221.2.1.size, 0)) else (none)) else (none)))) else (some ((⟨#[]⟩ : ByteArray), (⟨#[]⟩ : ByteArray), bt221.2.2)))
theorem pack_TakeText.mono : ∀ a0 k, LeO (pack_TakeText.f k a0) (pack_TakeText.f (k + 1) a0) := by
 intro a0 k
 unfold pack_TakeText.f
 repeat' with_reducible first | apply pack_TakeNumber.mono | apply LeO.refl | apply LeO.none | apply LeO.ite | refine LeO.bind ?_ (fun _ => ?_)
theorem pack_TakeText.calls (k : Nat) (a0 : ByteArray) (r1 : ByteArray) (r2 : ByteArray) (r3 : Int) (w : World) (h : pack_TakeText.f k a0 = some (r1, r2, r3)) :
  Calls Try.prog 81 #[.string a0] w fun e w' => e = .returned (.tuple #[.string r1, .string r2, .int .i64 r3]) ∧ Drawn0 w w' := by
 have H := h
 unfold pack_TakeText.f at H
 clear h
 obtain ⟨⟨t_1, t_2, t_3⟩, A_1, H⟩ := Option.bind_eq_some_iff.mp H
 try dsimp only at H
 have A_2 := a_ A_1
 clear A_1
 by_cases c_1 : t_3 = 0
 rotate_left
 focus
  rw [if_neg c_1] at H
  have c_2 : (t_3 == 0) = false := beq_eq_false_iff_ne.mpr c_1
  have c_3 : (t_3 != 0) = true := bne_iff_ne.mpr c_1
  simp only [Option.some.injEq, Prod.mk.injEq] at H
  obtain ⟨rfl, rfl, rfl⟩ := H
 rotate_left
 focus
  rw [if_pos c_1] at H
  have c_2 : (t_3 == 0) = true := beq_iff_eq.mpr c_1
  have c_3 : (t_3 != 0) = false := bne_eq_false_iff_eq.mpr c_1
  clear c_1
  by_cases c_4 : t_1 > 65536
  focus
   rw [if_pos c_4] at H
   have c_5 : decide (65536 < t_1) = true := decide_eq_true c_4
   clear c_4
   simp only [Option.some.injEq, Prod.mk.injEq] at H
   obtain ⟨rfl, rfl, rfl⟩ := H
  rotate_left
  focus
   rw [if_neg c_4] at H
   have c_5 : decide (65536 < t_1) = false := decide_eq_false c_4
   clear c_4
   by_cases c_6 : t_1 > (IntKind.u64.wrap ((t_2.size : Int)))
   focus
    rw [if_pos c_6] at H
    have c_7 : decide ((IntKind.u64.wrap ((t_2.size : Int))) < t_1) = true := decide_eq_true c_6
    clear c_6
    simp only [Option.some.injEq, Prod.mk.injEq] at H
    obtain ⟨rfl, rfl, rfl⟩ := H
   rotate_left
   focus
    rw [if_neg c_6] at H
    have c_7 : decide ((IntKind.u64.wrap ((t_2.size : Int))) < t_1) = false := decide_eq_false c_6
    clear c_6
    by_cases c_8 : 0 ≤ t_1
    rotate_left
    ·rw [if_neg c_8] at H
     exact absurd H (by simp)
    rw [if_pos c_8] at H
    have c_9 := eq_true c_8
    have c_10 : decide (0 ≤ t_1) = true := decide_eq_true c_8
    clear c_8
    by_cases c_11 : t_1 ≤ (t_2.size : Int)
    rotate_left
    ·rw [if_neg c_11] at H
     exact absurd H (by simp)
    rw [if_pos c_11] at H
    have c_12 := eq_true c_11
    have c_13 : decide (t_1 ≤ (t_2.size : Int)) = true := decide_eq_true c_11
    clear c_11
    have c_14 := eq_true (od_ : 0 ≤ t_1)
    have c_15 := eq_true (od_ : t_1 ≤ (t_2.size : Int))
    simp only [Option.some.injEq, Prod.mk.injEq] at H
    obtain ⟨rfl, rfl, rfl⟩ := H
 all_goals
  go_enter Try.func81, Try.ntmps81
  go_wp2_with (first | (go_at_call 78; (with_reducible refine (pack_TakeNumber.calls k a0 t_1 t_2 t_3 _ A_2.out).mono ?_); rintro e w' ⟨rfl, ⟨nd, rfl⟩⟩; (try first | exact ⟨rfl, _, World.drewN_drewN _ _ _⟩ | exact ⟨rfl, _, Eq.trans (World.drewN_drewN _ _ _) (congrArg (World.drewN _) (Nat.add_assoc _ _ _))⟩)) | go_quiet (first | (go_at_call 78; (with_reducible refine (pack_TakeNumber.calls k a0 t_1 t_2 t_3 _ A_2.out).mono ?_); rintro e w' ⟨rfl, ⟨nd, rfl⟩⟩; (try first | exact ⟨rfl, _, World.drewN_drewN _ _ _⟩ | exact ⟨rfl, _, Eq.trans (World.drewN_drewN _ _ _) (congrArg (World.drewN _) (Nat.add_assoc _ _ _))⟩))))
  go_ret3
  exact ⟨fz_, dr_⟩

def wal_Taker_Text.f (k : Nat) (s0_0 : ByteArray) (s0_1 : Bool) : Option (ByteArray × ByteArray × Bool) := (pack_TakeText.f k s0_0).bind fun bt224 => (if s0_1 = true then (some (bt224.1, bt224.2.1, true)) else (some (bt224.1, bt224.2.1, (bt224.2.2 != 0))))
theorem wal_Taker_Text.mono : ∀ a0 a1 k, LeO (wal_Taker_Text.f k a0 a1) (wal_Taker_Text.f (k + 1) a0 a1) := by
 intro a0 a1 k
 unfold wal_Taker_Text.f
 repeat' with_reducible first | apply pack_TakeText.mono | apply LeO.refl | apply LeO.none | apply LeO.ite | refine LeO.bind ?_ (fun _ => ?_)
theorem wal_Taker_Text.calls (k : Nat) (g : Nat) (s0_0 : ByteArray) (s0_1 : Bool) (r1 : ByteArray) (r2 : ByteArray) (r3 : Bool) (w0 w : World) (hI : IsS87 w0 w g s0_0 s0_1) (hB : Below w0.heap.size w0 w) (h : wal_Taker_Text.f k s0_0 s0_1 = some (r1, r2, r3)) :
  Calls Try.prog 59 #[.pointer (some ⟨g, 0, none⟩)] w fun e w' => e = .returned (.string r1) ∧ IsS87 w0 w' g r2 r3 ∧ Below w0.heap.size w0 w' ∧ KeepBut w w' g none := by
 have HI0 := a_ hI
 have HK := a_ (KeepBut.refl w g none)
 have HL := a_ hB.size
 clear hI
 have HW0 := a_ hB.size
 have HB := a_ hB
 clear hB
 have H := h
 unfold wal_Taker_Text.f at H
 clear h
 obtain ⟨⟨t224, t225, t226⟩, A20, H⟩ := Option.bind_eq_some_iff.mp H
 try dsimp only at H
 have A2 := a_ A20
 clear A20
 by_cases c3 : s0_1 = true
 ·subst c3
  have H1 : (some (t224, t225, true)) = some (r1, r2, r3) := by rw [if_pos rfl] at H; exact H
  clear H
  have H := H1
  clear H1
  simp only [Option.some.injEq, Prod.mk.injEq] at H
  obtain ⟨rfl, rfl, rfl⟩ := H
  obtain ⟨Tz4_, hTz4_, HGz4, hgz4⟩ := HI0.out
  have hcz4_0 := cellS87_0 HGz4
  have hcz4_1 := cellS87_1 HGz4
  have hfz4_0 := blk_frozen HGz4 0
  have hfz4_1 := blk_frozen HGz4 1
  clear HGz4 hgz4
  go_enter Try.func59, Try.ntmps59
  go_wp2_with (first | ((with_reducible refine gk_ 81 ?_); refine gl_ (some 11) Try.func81 #[.string s0_0] ?_; (with_reducible refine (pack_TakeText.calls k s0_0 t224 t225 t226 _ A2.out).mono ?_); rintro e w' ⟨rfl, ⟨nd, rfl⟩⟩; refine ⟨_, rfl, ?_⟩; (try (rw [drewN_self w]; generalize hq_ : World.drewN w _ = w5; have n0_ : Aside0 (IsS87 w0 w5 g s0_0 true) := ⟨by rw [← hq_]; exact (hi87a_ HI0)⟩; have n1_ : Aside0 (KeepBut w w5 g none) := ⟨by rw [← hq_]; exact (hk0_ HK)⟩; have n2_ : Aside0 (Below w0.heap.size w0 w5) := ⟨by rw [← hq_]; exact (hb1_ HB (IsS87.ge HI0.out))⟩; clear HI0 HK HB hq_; have HI0 := n0_; have HK := n1_; have HB := n2_; clear n0_ n1_ n2_; obtain ⟨Tz4_, hTz4_, HGz4, hgz4⟩ := HI0.out; have hcz4_0 := cellS87_0 HGz4; have hcz4_1 := cellS87_1 HGz4; have hfz4_0 := blk_frozen HGz4 0; have hfz4_1 := blk_frozen HGz4 1; clear HGz4 hgz4))))
  go_ret
  exact ⟨fz_, hi87a_ HI0, hb1_ HB (IsS87.ge HI0.out), hk0_ HK⟩
 replace c3 := Bool.eq_false_iff.mpr c3
 subst c3
 have H1 : (some (t224, t225, (t226 != 0))) = some (r1, r2, r3) := by rw [if_neg (show ¬ (false = true) by decide)] at H; exact H
 clear H
 have H := H1
 clear H1
 simp only [Option.some.injEq, Prod.mk.injEq] at H
 obtain ⟨rfl, rfl, rfl⟩ := H
 obtain ⟨Tz6_, hTz6_, HGz6, hgz6⟩ := HI0.out
 have hcz6_0 := cellS87_0 HGz6
 have hcz6_1 := cellS87_1 HGz6
 have hfz6_0 := blk_frozen HGz6 0
 have hfz6_1 := blk_frozen HGz6 1
 clear HGz6 hgz6
 go_enter Try.func59, Try.ntmps59
 go_wp2_with (first | ((with_reducible refine gk_ 81 ?_); refine gl_ (some 11) Try.func81 #[.string s0_0] ?_; (with_reducible refine (pack_TakeText.calls k s0_0 t224 t225 t226 _ A2.out).mono ?_); rintro e w' ⟨rfl, ⟨nd, rfl⟩⟩; refine ⟨_, rfl, ?_⟩; (try (rw [drewN_self w]; generalize hq_ : World.drewN w _ = w7; have n0_ : Aside0 (IsS87 w0 w7 g s0_0 false) := ⟨by rw [← hq_]; exact (hi87a_ HI0)⟩; have n1_ : Aside0 (KeepBut w w7 g none) := ⟨by rw [← hq_]; exact (hk0_ HK)⟩; have n2_ : Aside0 (Below w0.heap.size w0 w7) := ⟨by rw [← hq_]; exact (hb1_ HB (IsS87.ge HI0.out))⟩; clear HI0 HK HB hq_; have HI0 := n0_; have HK := n1_; have HB := n2_; clear n0_ n1_ n2_; obtain ⟨Tz6_, hTz6_, HGz6, hgz6⟩ := HI0.out; have hcz6_0 := cellS87_0 HGz6; have hcz6_1 := cellS87_1 HGz6; have hfz6_0 := blk_frozen HGz6 0; have hfz6_1 := blk_frozen HGz6 1; clear HGz6 hgz6))))
 go_ret
 exact ⟨fz_, hi87a_ HI0, hb1_ HB (IsS87.ge HI0.out), hk0_ HK⟩

mutual
def wal_Taker_Ints.j0 : Nat → List Int → Int → ByteArray → Bool → Option (List Int × ByteArray × Bool)
 | 0, _, _, _, _ => none
 | k + 1, x3, x4, x1000, x1001 => wal_Taker_Ints.l0 k x3 x4 x1000 x1001
def wal_Taker_Ints.l0 : Nat → List Int → Int → ByteArray → Bool → Option (List Int × ByteArray × Bool)
 | 0, _, _, _, _ => none
 | k + 1, x3, x4, x1000, x1001 => if x4 > 0 then (if x1001 = true then (some (x3, x1000, x1001)) else ((wal_Taker_Number.f k x1000 x1001).bind fun bt230 => (if bt230.2.2 = true then (if x3.length < 17592186044416 then (wal_Taker_Ints.l0 k (x3 ++ [wrap64 (bt230.1)]) (IntKind.u64.wrap (x4 - 1)) bt230.2.1 true) else (none)) else (if x3.length < 17592186044416 then (wal_Taker_Ints.l0 k (x3 ++ [wrap64 (bt230.1)]) (IntKind.u64.wrap (x4 - 1)) bt230.2.1 (decide (bt230.1 > 7))) else (none))))) else (some (x3, x1000, x1001))
end
def wal_Taker_Ints.f (k : Nat) (s0_0 : ByteArray) (s0_1 : Bool) : Option (List Int × ByteArray × Bool) := (wal_Taker_Number.f k s0_0 s0_1).bind fun bt227 => (if bt227.2.2 = true then (wal_Taker_Ints.j0 k ([] : List Int) bt227.1 bt227.2.1 true) else (wal_Taker_Ints.j0 k ([] : List Int) bt227.1 bt227.2.1 (decide (bt227.1 > 7))))
theorem wal_Taker_Ints.mono_l : ∀ k, (∀ y0 y1 y2 y3, LeO (wal_Taker_Ints.j0 k y0 y1 y2 y3) (wal_Taker_Ints.j0 (k + 1) y0 y1 y2 y3)) ∧ (∀ y0 y1 y2 y3, LeO (wal_Taker_Ints.l0 k y0 y1 y2 y3) (wal_Taker_Ints.l0 (k + 1) y0 y1 y2 y3))
 | 0 => ⟨fun _ _ _ _ r h => by simp [wal_Taker_Ints.j0] at h, fun _ _ _ _ r h => by simp [wal_Taker_Ints.l0] at h⟩
 | k + 1 => by
  obtain ⟨ih0, ih1⟩ := wal_Taker_Ints.mono_l k
  refine ⟨?_, ?_⟩
  ·intro y0 y1 y2 y3
   unfold wal_Taker_Ints.j0
   repeat' with_reducible first | apply ih0 | apply ih1 | apply wal_Taker_Number.mono | apply LeO.refl | apply LeO.none | apply LeO.ite | refine LeO.bind ?_ (fun _ => ?_)
  ·intro y0 y1 y2 y3
   unfold wal_Taker_Ints.l0
   repeat' with_reducible first | apply ih0 | apply ih1 | apply wal_Taker_Number.mono | apply LeO.refl | apply LeO.none | apply LeO.ite | refine LeO.bind ?_ (fun _ => ?_)
theorem wal_Taker_Ints.mono : ∀ a0 a1 k, LeO (wal_Taker_Ints.f k a0 a1) (wal_Taker_Ints.f (k + 1) a0 a1) := by
 intro a0 a1 k
 obtain ⟨ih0, ih1⟩ := wal_Taker_Ints.mono_l k
 unfold wal_Taker_Ints.f
 repeat' with_reducible first | apply ih0 | apply ih1 | apply wal_Taker_Number.mono | apply LeO.refl | apply LeO.none | apply LeO.ite | refine LeO.bind ?_ (fun _ => ?_)
theorem wal_Taker_Ints.calls (k : Nat) (g : Nat) (s0_0 : ByteArray) (s0_1 : Bool) (r1 : List Int) (r2 : ByteArray) (r3 : Bool) (w0 w : World) (hI : IsS87 w0 w g s0_0 s0_1) (hB : Below w0.heap.size w0 w) (h : wal_Taker_Ints.f k s0_0 s0_1 = some (r1, r2, r3)) :
  Calls Try.prog 88 #[.pointer (some ⟨g, 0, none⟩)] w fun e w' => ∃ v0_ : Value, e = .returned (v0_) ∧ Kd.R (Kd.int .i64) 3 w' w.heap.size (fun _ => True) v0_ r1 ∧ IsS87 w0 w' g r2 r3 ∧ Below w0.heap.size w0 w' ∧ KeepBut w w' g none := by
 have HI0 := a_ hI
 have HK := a_ (KeepBut.refl w g none)
 have HL := a_ hB.size
 clear hI
 have HW0 := a_ hB.size
 have HB := a_ hB
 clear hB
 have H := h
 unfold wal_Taker_Ints.f at H
 clear h
 obtain ⟨⟨t227, t228, t229⟩, A20, H⟩ := Option.bind_eq_some_iff.mp H
 try dsimp only at H
 have A2 := a_ A20
 clear A20
 have HC3 := a_ H
 clear H
 go_enter Try.func88, Try.ntmps88
 go_upto_region 3 with (first | ((with_reducible refine gk_ 53 ?_); refine gl_ (some 7) Try.func53 #[.pointer (some ⟨g, 0, none⟩)] ?_; (with_reducible refine (wal_Taker_Number.calls k g s0_0 s0_1 t227 t228 t229 w0 _ ?side1 ?side2 A2.out).mono ?_); (case side1 => exact hi87a_ HI0); (case side2 => exact hb1_ HB (IsS87.ge HI0.out)); rintro e w4 ⟨rfl, hi, hb, hk⟩; refine ⟨_, rfl, ?_⟩; replace HK := a_ (KeepBut.trans (hk0_ HK) hk (.inl rfl)); replace HB := a_ (hb); replace HI0 := a_ (hi); (try clear hb)))
 (try simp only [Act.put, List.setIfInBounds_toArray, List.set_cons_zero, List.set_cons_succ])
 go_cut [] (fun wc => ∃ (kq : Nat) (x1001_2 : Bool), Aside0 (wal_Taker_Ints.j0 kq ([] : List Int) t227 t228 x1001_2 = some (r1, r2, r3)) ∧ Aside0 (kq ≤ k) ∧ Aside0 (Kd.R (Kd.int .i64) 3 wc w.heap.size (fun _ => True) (.slice none 0 0) ([] : List Int)) ∧ Aside0 (IsS87 w0 wc g t228 x1001_2) ∧ Aside0 (KeepBut w wc g none) ∧ Aside0 (Below w0.heap.size w0 wc))
 case first =>
  have H := HC3.out
  clear HC3
  by_cases c5 : t229 = true
  ·subst c5
   have H1 : (wal_Taker_Ints.j0 k ([] : List Int) t227 t228 true) = some (r1, r2, r3) := by rw [if_pos rfl] at H; exact H
   clear H
   have H := H1
   clear H1
   have H' := a_ H
   clear H
   obtain ⟨Tz6_, hTz6_, HGz6, hgz6⟩ := HI0.out
   have hcz6_0 := cellS87_0 HGz6
   have hcz6_1 := cellS87_1 HGz6
   have hfz6_0 := blk_frozen HGz6 0
   have hfz6_1 := blk_frozen HGz6 1
   clear HGz6 hgz6
   go_wp2
   go_meet
   case rel => exact ⟨_, (true), H', ⟨by first | omega | exact Nat.le_refl _⟩, ⟨by first | exact Kd.R_nil _ _ _ _ _ | exact Kd.N_nil _ _ _ _ _ | exact Kd.V_nil _ _ _ _ _ | exact Kd.Q_nil _ _ _ _ _ | exact Kd.S_nil _ _ _ _ _⟩, ⟨hi87a_ HI0⟩, ⟨hk0_ HK⟩, ⟨hb1_ HB (IsS87.ge HI0.out)⟩⟩
  replace c5 := Bool.eq_false_iff.mpr c5
  subst c5
  have H1 : (wal_Taker_Ints.j0 k ([] : List Int) t227 t228 (decide (t227 > 7))) = some (r1, r2, r3) := by rw [if_neg (show ¬ (false = true) by decide)] at H; exact H
  clear H
  have H := H1
  clear H1
  have H' := a_ H
  clear H
  obtain ⟨Tz7_, hTz7_, HGz7, hgz7⟩ := HI0.out
  have hcz7_0 := cellS87_0 HGz7
  have hcz7_1 := cellS87_1 HGz7
  have hfz7_0 := blk_frozen HGz7 0
  have hfz7_1 := blk_frozen HGz7 1
  clear HGz7 hgz7
  go_wp2
  go_meet
  case rel => exact ⟨_, (decide (t227 > 7)), H', ⟨by first | omega | exact Nat.le_refl _⟩, ⟨by first | exact Kd.R_nil _ _ _ _ _ | exact Kd.N_nil _ _ _ _ _ | exact Kd.V_nil _ _ _ _ _ | exact Kd.Q_nil _ _ _ _ _ | exact Kd.S_nil _ _ _ _ _⟩, ⟨hi87a_ HI0⟩, ⟨hk0_ HK⟩, ⟨hb1_ HB (IsS87.ge HI0.out)⟩⟩
 case rest =>
  clear HC3
  try clear p2
  try clear c5
  obtain ⟨kq, x1001_2, HA, HJ2, HO_3, HI0, HK, HB⟩ := hcut
  cases kq with
  | zero => exact absurd HA.out (by simp [wal_Taker_Ints.j0])
  | succ kj2 =>
   have H := HA.out
   clear HA
   simp only [wal_Taker_Ints.j0] at H
   have H' := a_ H
   clear H
   go_wp2
   go_loopg [3, 4] kj2 (fun kq v3 v4 w' => ∃ (x3_2 : List Int) (x4_2 : Int) (x1000_2 : ByteArray) (x1001_2 : Bool), v4 = .int .u64 x4_2 ∧ Aside0 (wal_Taker_Ints.l0 kq x3_2 x4_2 x1000_2 x1001_2 = some (r1, r2, r3)) ∧ Aside0 (kq ≤ kj2) ∧ Aside0 (Kd.R (Kd.int .i64) 3 w' w.heap.size (fun _ => True) v3 x3_2) ∧ Aside0 (IsS87 w0 w' g x1000_2 x1001_2) ∧ Aside0 (KeepBut w w' g none) ∧ Aside0 (Below w0.heap.size w0 w'))
   case atStart => exact ⟨(([] : List Int)), (t227), (t228), (x1001_2), fz_, H', ⟨Nat.le_refl _⟩, ⟨by refine rq_ ?_; exact HO_3.out⟩, ⟨hi87a_ HI0⟩, ⟨hk0_ HK⟩, ⟨hb1_ HB (IsS87.ge HI0.out)⟩⟩
   case round =>
    clear H'
    try clear p2
    try clear c5
    try clear p2
    obtain ⟨x3_2, x4_2, x1000_2, x1001_2, rfl, HA, HK2, HO_3, HI0, HK, HB⟩ := hrel
    cases gk with
    | zero => exact absurd HA.out (by simp [wal_Taker_Ints.l0])
    | succ k2 =>
     have H := HA.out
     clear HA
     simp only [wal_Taker_Ints.l0] at H
     by_cases c8 : x4_2 > 0
     rotate_left
     ·rw [if_neg c8] at H
      have c8b0 : decide (0 < x4_2) = false := decide_eq_false c8
      clear c8
      simp only [Option.some.injEq, Prod.mk.injEq] at H
      obtain ⟨rfl, rfl, rfl⟩ := H
      go_wp2
      go_ret
      exact ⟨_, fz_, by refine rq_ ?_; exact HO_3.out, hi87a_ HI0, hb1_ HB (IsS87.ge HI0.out), hk0_ HK⟩


     rw [if_pos c8] at H
     have c8b0 : decide (0 < x4_2) = true := decide_eq_true c8
     clear c8
     by_cases c9 : x1001_2 = true
     ·subst c9
      have H1 : (some (x3_2, x1000_2, true)) = some (r1, r2, r3) := by rw [if_pos rfl] at H; exact H
      clear H
      have H := H1
      clear H1
      simp only [Option.some.injEq, Prod.mk.injEq] at H
      obtain ⟨rfl, rfl, rfl⟩ := H
      obtain ⟨Tz10_, hTz10_, HGz10, hgz10⟩ := HI0.out
      have hcz10_0 := cellS87_0 HGz10
      have hcz10_1 := cellS87_1 HGz10
      have hfz10_0 := blk_frozen HGz10 0
      have hfz10_1 := blk_frozen HGz10 1
      clear HGz10 hgz10
      go_wp2
      go_ret
      exact ⟨_, fz_, by refine rq_ ?_; exact HO_3.out, hi87a_ HI0, hb1_ HB (IsS87.ge HI0.out), hk0_ HK⟩
     replace c9 := Bool.eq_false_iff.mpr c9
     subst c9
     have H1 : ((wal_Taker_Number.f k2 x1000_2 false).bind fun bt230 => (if bt230.2.2 = true then (if x3_2.length < 17592186044416 then (wal_Taker_Ints.l0 k2 (x3_2 ++ [wrap64 (bt230.1)]) (IntKind.u64.wrap (x4_2 - 1)) bt230.2.1 true) else (none)) else (if x3_2.length < 17592186044416 then (wal_Taker_Ints.l0 k2 (x3_2 ++ [wrap64 (bt230.1)]) (IntKind.u64.wrap (x4_2 - 1)) bt230.2.1 (decide (bt230.1 > 7))) else (none)))) = some (r1, r2, r3) := by rw [if_neg (show ¬ (false = true) by decide)] at H; exact H
     clear H
     have H := H1
     clear H1
     obtain ⟨⟨t230, t231, t232⟩, A110, H⟩ := Option.bind_eq_some_iff.mp H
     try dsimp only at H
     have A11 := a_ A110
     clear A110
     by_cases c12 : t232 = true
     ·subst c12
      have H1 : (if x3_2.length < 17592186044416 then (wal_Taker_Ints.l0 k2 (x3_2 ++ [wrap64 (t230)]) (IntKind.u64.wrap (x4_2 - 1)) t231 true) else (none)) = some (r1, r2, r3) := by rw [if_pos rfl] at H; exact H
      clear H
      have H := H1
      clear H1
      by_cases c13 : x3_2.length < 17592186044416
      rotate_left
      ·rw [if_neg c13] at H
       exact absurd H (by simp)
      rw [if_pos c13] at H
      have LMc13 := a_ c13
      clear c13
      obtain ⟨y233, hy233⟩ : ∃ y_ : List Int, y_ = (x3_2 ++ [wrap64 (t230)]) := ⟨_, rfl⟩
      replace H : (wal_Taker_Ints.l0 k2 y233 (IntKind.u64.wrap (x4_2 - 1)) t231 true) = some (r1, r2, r3) := by first | (rw [hy233]; with_reducible exact H) | (have H2_ := (Option.bind_some _ _).symm.trans H; rw [hy233]; with_reducible exact H2_) | (have H2_ := (Option.bind_some _ _).symm.trans H; with_reducible exact H2_) | with_reducible exact H | (rw [hy233]; exact H) | exact H
      have Ny233 := a_ hy233
      clear hy233
      have H' := a_ H
      clear H
      obtain ⟨Tz14_, hTz14_, HGz14, hgz14⟩ := HI0.out
      have hcz14_0 := cellS87_0 HGz14
      have hcz14_1 := cellS87_1 HGz14
      have hfz14_0 := blk_frozen HGz14 0
      have hfz14_1 := blk_frozen HGz14 1
      clear HGz14 hgz14
      go_wp2_with (first | ((with_reducible refine gk_ 53 ?_); refine gl_ (some 31) Try.func53 #[.pointer (some ⟨g, 0, none⟩)] ?_; (with_reducible refine (wal_Taker_Number.calls k2 g x1000_2 false t230 t231 true w0 _ ?side1 ?side2 A11.out).mono ?_); (case side1 => exact hi87a_ HI0); (case side2 => exact hb1_ HB (IsS87.ge HI0.out)); rintro e w15 ⟨rfl, hi, hb, hk⟩; refine ⟨_, rfl, ?_⟩; replace HO_3 := a_ (Kd.R_mono (Kd.R_keep (IsS87.apart (show IsS87 w0 _ g x1000_2 false from hi87a_ HI0) (by refine rq_ ?_; exact HO_3.out) (by decide)) hk (fun _ h => h.2)) (fun _ h => h.1)); replace HK := a_ (KeepBut.trans (hk0_ HK) hk (.inl rfl)); replace HB := a_ (hb); replace HI0 := a_ (hi); (try clear hb); obtain ⟨Tz16_, hTz16_, HGz16, hgz16⟩ := HI0.out; have hcz16_0 := cellS87_0 HGz16; have hcz16_1 := cellS87_1 HGz16; have hfz16_0 := blk_frozen HGz16 0; have hfz16_1 := blk_frozen HGz16 1; clear HGz16 hgz16) | ((with_reducible refine gate_builtin (b := .append) (xs := #[.tmp 43, .tmp 46]) rfl ?_); at_builtin; refine Kd.R_append (Kd.int .i64) w.heap.size rfl (.tmp 43) (.tmp 46) 33 3 (.int .i64 0) 8 rfl Try.underlying33 info3 rfl (by decide) (by omega) u3 x3_2 (wrap64 (t230)) [.int .i64 (wrap64 (t230))] (fun _ => True) (fun _ => False) rfl (by first | (go_simp; done) | (go_simp; rfl)) ?aP (fun _ hk => hk.elim) ?aF ?aO (Below.refl _ _) ?aS ?aL ?_; (case aP => exact rfl); (case aF => exact (fun _ _ => trivial)); (case aO => exact (by refine rq_ ?_; exact Kd.R_mono (Kd.R_far (p := ⟨g, 1, none⟩) (IsS87.apart HI0.out HO_3.out (by decide)) (fun _ hk => hk.2) (.bool true)) (fun _ hk => trivial))); (case aS => exact (keep_size (w := w) (g := g) (row := none) (hk0_ HK))); (case aL => have := LMc13.out; omega); intro v234 w17 ho hb hg hat; rw [← Ny233.out] at ho; replace HB := a_ (below_weaken (hb1_ HB (IsS87.ge HI0.out)) HL.out hb); replace HI0 := a_ (IsS87.grown (hi87a_ HI0) hg (IsS87.own_ne HI0.out HO_3.out (by decide))); replace HK := a_ (KeepBut.trans (hk0_ HK) (KeepBut.of_grown hg g) (Kd.R_base2 HO_3.out)); have HO235 := a_ (ho); clear HO_3; clear ho hb hg hat))
      go_roundg k2
      case measure => have := HJ2.out; have := HK2.out; omega
      case rel => exact ⟨(y233), (IntKind.u64.wrap (x4_2 - 1)), (t231), (true), fz_, H', ⟨by have := HJ2.out; have := HK2.out; omega⟩, ⟨by refine rq_ ?_; exact HO235.out⟩, ⟨hi87a_ HI0⟩, ⟨hk0_ HK⟩, ⟨hb1_ HB (IsS87.ge HI0.out)⟩⟩
     replace c12 := Bool.eq_false_iff.mpr c12
     subst c12
     have H1 : (if x3_2.length < 17592186044416 then (wal_Taker_Ints.l0 k2 (x3_2 ++ [wrap64 (t230)]) (IntKind.u64.wrap (x4_2 - 1)) t231 (decide (t230 > 7))) else (none)) = some (r1, r2, r3) := by rw [if_neg (show ¬ (false = true) by decide)] at H; exact H
     clear H
     have H := H1
     clear H1
     by_cases c18 : x3_2.length < 17592186044416
     rotate_left
     ·rw [if_neg c18] at H
      exact absurd H (by simp)
     rw [if_pos c18] at H
     have LMc18 := a_ c18
     clear c18
     obtain ⟨y236, hy236⟩ : ∃ y_ : List Int, y_ = (x3_2 ++ [wrap64 (t230)]) := ⟨_, rfl⟩
     replace H : (wal_Taker_Ints.l0 k2 y236 (IntKind.u64.wrap (x4_2 - 1)) t231 (decide (t230 > 7))) = some (r1, r2, r3) := by first | (rw [hy236]; with_reducible exact H) | (have H2_ := (Option.bind_some _ _).symm.trans H; rw [hy236]; with_reducible exact H2_) | (have H2_ := (Option.bind_some _ _).symm.trans H; with_reducible exact H2_) | with_reducible exact H | (rw [hy236]; exact H) | exact H
     have Ny236 := a_ hy236
     clear hy236
     have H' := a_ H
     clear H
     obtain ⟨Tz19_, hTz19_, HGz19, hgz19⟩ := HI0.out
     have hcz19_0 := cellS87_0 HGz19
     have hcz19_1 := cellS87_1 HGz19
     have hfz19_0 := blk_frozen HGz19 0
     have hfz19_1 := blk_frozen HGz19 1
     clear HGz19 hgz19
     go_wp2_with (first | ((with_reducible refine gk_ 53 ?_); refine gl_ (some 31) Try.func53 #[.pointer (some ⟨g, 0, none⟩)] ?_; (with_reducible refine (wal_Taker_Number.calls k2 g x1000_2 false t230 t231 false w0 _ ?side1 ?side2 A11.out).mono ?_); (case side1 => exact hi87a_ HI0); (case side2 => exact hb1_ HB (IsS87.ge HI0.out)); rintro e w20 ⟨rfl, hi, hb, hk⟩; refine ⟨_, rfl, ?_⟩; replace HO_3 := a_ (Kd.R_mono (Kd.R_keep (IsS87.apart (show IsS87 w0 _ g x1000_2 false from hi87a_ HI0) (by refine rq_ ?_; exact HO_3.out) (by decide)) hk (fun _ h => h.2)) (fun _ h => h.1)); replace HK := a_ (KeepBut.trans (hk0_ HK) hk (.inl rfl)); replace HB := a_ (hb); replace HI0 := a_ (hi); (try clear hb); obtain ⟨Tz21_, hTz21_, HGz21, hgz21⟩ := HI0.out; have hcz21_0 := cellS87_0 HGz21; have hcz21_1 := cellS87_1 HGz21; have hfz21_0 := blk_frozen HGz21 0; have hfz21_1 := blk_frozen HGz21 1; clear HGz21 hgz21) | ((with_reducible refine gate_builtin (b := .append) (xs := #[.tmp 43, .tmp 46]) rfl ?_); at_builtin; refine Kd.R_append (Kd.int .i64) w.heap.size rfl (.tmp 43) (.tmp 46) 33 3 (.int .i64 0) 8 rfl Try.underlying33 info3 rfl (by decide) (by omega) u3 x3_2 (wrap64 (t230)) [.int .i64 (wrap64 (t230))] (fun _ => True) (fun _ => False) rfl (by first | (go_simp; done) | (go_simp; rfl)) ?aP (fun _ hk => hk.elim) ?aF ?aO (Below.refl _ _) ?aS ?aL ?_; (case aP => exact rfl); (case aF => exact (fun _ _ => trivial)); (case aO => exact (by refine rq_ ?_; exact Kd.R_mono (Kd.R_far (p := ⟨g, 1, none⟩) (IsS87.apart HI0.out HO_3.out (by decide)) (fun _ hk => hk.2) (.bool (decide (t230 > 7)))) (fun _ hk => trivial))); (case aS => exact (keep_size (w := w) (g := g) (row := none) (hk0_ HK))); (case aL => have := LMc18.out; omega); intro v237 w22 ho hb hg hat; rw [← Ny236.out] at ho; replace HB := a_ (below_weaken (hb1_ HB (IsS87.ge HI0.out)) HL.out hb); replace HI0 := a_ (IsS87.grown (hi87a_ HI0) hg (IsS87.own_ne HI0.out HO_3.out (by decide))); replace HK := a_ (KeepBut.trans (hk0_ HK) (KeepBut.of_grown hg g) (Kd.R_base2 HO_3.out)); have HO238 := a_ (ho); clear HO_3; clear ho hb hg hat))
     go_roundg k2
     case measure => have := HJ2.out; have := HK2.out; omega
     case rel => exact ⟨(y236), (IntKind.u64.wrap (x4_2 - 1)), (t231), (decide (t230 > 7)), fz_, H', ⟨by have := HJ2.out; have := HK2.out; omega⟩, ⟨by refine rq_ ?_; exact HO238.out⟩, ⟨hi87a_ HI0⟩, ⟨hk0_ HK⟩, ⟨hb1_ HB (IsS87.ge HI0.out)⟩⟩
end Go.Proofs.Ytcdibodjkdoknaa.PM
