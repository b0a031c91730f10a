-- By a program of this session.
import Derived.Test.YtpigjmjbfpipnaaPDx0
namespace Go.Proofs.Ytpigjmjbfpipnaa.PD
open Go.RowKit YtpigjmjbfpipnaaW.PrintWords YtpigjmjbfpipnaaW.PrintLast YtpigjmjbfpipnaaW.PrintMore Sh Ytpigjmjbfpipnaa.Op
attribute [local go_sem] max2_int min2_int max_two min_two max_three min_three max_four min_four
set_option linter.unusedVariables false
set_option maxHeartbeats 80000000
set_option maxRecDepth 100000
set_option linter.unusedSimpArgs false

mutual
def gafferref01_Sum.l0 : Nat → ByteArray → Int → Int → Option (Int)
 | 0, _, _, _ => none
 | k + 1, x0, x3, x4 => if x4 < (x0.size : Int) then (if 0 ≤ x4 then (gafferref01_Sum.l1 k x0 (Go.bits .xor .u32 x3 ((((bt x0 x4) % 4294967296) * 256) % 4294967296)) x4 0) else (none)) else (some (IntKind.u16.wrap (x3)))
def gafferref01_Sum.l1 : Nat → ByteArray → Int → Int → Int → Option (Int)
 | 0, _, _, _, _ => none
 | k + 1, x0, x3, x4, x5 => if x5 < 8 then (if ((x3 * 2) % 4294967296) ≥ 65536 then (gafferref01_Sum.l1 k x0 (Go.bits .xor .u32 ((((x3 * 2) % 4294967296) - 65536) % 4294967296) 4129) x4 (wrap64 (x5 + 1))) else (gafferref01_Sum.l1 k x0 ((x3 * 2) % 4294967296) x4 (wrap64 (x5 + 1)))) else (gafferref01_Sum.l0 k x0 x3 (wrap64 (x4 + 1)))
end
def gafferref01_Sum.f (k : Nat) (a0 : ByteArray) : Option (Int) := gafferref01_Sum.l0 k a0 65535 0
theorem gafferref01_Sum.mono_l : ∀ k, (∀ y0 y1 y2, LeO (gafferref01_Sum.l0 k y0 y1 y2) (gafferref01_Sum.l0 (k + 1) y0 y1 y2)) ∧ (∀ y0 y1 y2 y3, LeO (gafferref01_Sum.l1 k y0 y1 y2 y3) (gafferref01_Sum.l1 (k + 1) y0 y1 y2 y3))
 | 0 => ⟨fun _ _ _ r h => by simp [gafferref01_Sum.l0] at h, fun _ _ _ _ r h => by simp [gafferref01_Sum.l1] at h⟩
 | k + 1 => by
  obtain ⟨ih0, ih1⟩ := gafferref01_Sum.mono_l k
  refine ⟨?_, ?_⟩
  ·intro y0 y1 y2
   unfold gafferref01_Sum.l0
   repeat' with_reducible first | apply ih0 | apply ih1 | apply LeO.refl | apply LeO.none | apply LeO.ite | refine LeO.bind ?_ (fun _ => ?_)
  ·intro y0 y1 y2 y3
   unfold gafferref01_Sum.l1
   repeat' with_reducible first | apply ih0 | apply ih1 | apply LeO.refl | apply LeO.none | apply LeO.ite | refine LeO.bind ?_ (fun _ => ?_)
theorem gafferref01_Sum.mono : ∀ a0 k, LeO (gafferref01_Sum.f k a0) (gafferref01_Sum.f (k + 1) a0) := by
 intro a0 k
 obtain ⟨ih0, ih1⟩ := gafferref01_Sum.mono_l k
 unfold gafferref01_Sum.f
 repeat' with_reducible first | apply ih0 | apply ih1 | apply LeO.refl | apply LeO.none | apply LeO.ite | refine LeO.bind ?_ (fun _ => ?_)
theorem gafferref01_Sum.calls (k : Nat) (a0 : ByteArray) (r : Int) (w : World) (h : gafferref01_Sum.f k a0 = some r) :
  Calls Try.prog 95 #[.string a0] w fun e w' => e = .returned (.int .u16 r) ∧ Drawn0 w w' := by
 have H : (gafferref01_Sum.l0 k a0 65535 0) = some r := h
 clear h
 have H' := a_ H
 clear H
 go_enter Try.func95, Try.ntmps95
 go_wp2
 go_loopg [3, 4] k (fun kq v3 v4 w' => ∃ (x3_1 : Int) (x4_1 : Int), v3 = .int .u32 x3_1 ∧ v4 = .int .i64 x4_1 ∧ Aside0 (gafferref01_Sum.l0 kq a0 x3_1 x4_1 = some r) ∧ Aside0 (kq ≤ k) ∧ Drawn0 w w')
 case atStart => exact ⟨(65535), (0), fz_, fz_, H', ⟨Nat.le_refl _⟩, dr_⟩
 case round =>
  clear H'
  obtain ⟨x3_1, x4_1, rfl, rfl, HA, HK1, ⟨m1, rfl⟩⟩ := hrel
  cases gk with
  | zero => exact absurd HA.out (by simp [gafferref01_Sum.l0])
  | succ k1 =>
   have H := HA.out
   clear HA
   simp only [gafferref01_Sum.l0] at H
   by_cases c2 : x4_1 < (a0.size : Int)
   rotate_left
   ·rw [if_neg c2] at H
    have c2b0 : decide (x4_1 < (a0.size : Int)) = false := decide_eq_false c2
    clear c2
    obtain rfl := Option.some.inj H
    go_wp2
    go_ret
    exact ⟨fz_, dr_⟩


   rw [if_pos c2] at H
   have c2b0 : decide (x4_1 < (a0.size : Int)) = true := decide_eq_true c2
   clear c2
   by_cases c3 : 0 ≤ x4_1
   rotate_left
   ·rw [if_neg c3] at H
    exact absurd H (by simp)
   rw [if_pos c3] at H
   have c3b0 : decide (0 ≤ x4_1) = true := decide_eq_true c3
   clear c3
   have H' := a_ H
   clear H
   have p4 : 0 ≤ (x4_1 : Int) := od_
   have q4 : x4_1 < (a0.size : Int) := od_
   have hx4 := bt_at a0 x4_1
   replace p4 := eq_true p4
   replace q4 := eq_true q4
   go_wp2
   go_loopg [3, 5] k1 (fun kq v3 v5 w' => ∃ (x3_2 : Int) (x5_2 : Int), v3 = .int .u32 x3_2 ∧ v5 = .int .i64 x5_2 ∧ Aside0 (gafferref01_Sum.l1 kq a0 x3_2 x4_1 x5_2 = some r) ∧ Aside0 (kq ≤ k1) ∧ Drawn0 w w')
   case atStart => exact ⟨(Go.bits .xor .u32 x3_1 ((((bt a0 x4_1) % 4294967296) * 256) % 4294967296)), (0), fz_, fz_, H', ⟨Nat.le_refl _⟩, dr_⟩
   case round =>
    clear H'
    try clear c2
    try clear c2b0
    try clear p2
    try clear c3
    try clear c3b0
    try clear p4
    try clear q4
    try clear hx4
    try clear p4
    try clear q4
    obtain ⟨x3_2, x5_2, rfl, rfl, HA, HK2, ⟨m2, rfl⟩⟩ := hrel
    cases gk with
    | zero => exact absurd HA.out (by simp [gafferref01_Sum.l1])
    | succ k2 =>
     have H := HA.out
     clear HA
     simp only [gafferref01_Sum.l1] at H
     by_cases c5 : x5_2 < 8
     rotate_left
     ·rw [if_neg c5] at H
      have c5b0 : decide (x5_2 < 8) = false := decide_eq_false c5
      clear c5
      have H' := a_ H
      clear H
      go_wp2
      go_roundg k2
      case measure => have := HK1.out; have := HK2.out; omega
      case rel => exact ⟨(x3_2), (wrap64 (x4_1 + 1)), fz_, fz_, H', ⟨by have := HK1.out; have := HK2.out; omega⟩, dr_⟩
     rw [if_pos c5] at H
     have c5b0 : decide (x5_2 < 8) = true := decide_eq_true c5
     clear c5
     by_cases c6 : ((x3_2 * 2) % 4294967296) ≥ 65536
     rotate_left
     ·rw [if_neg c6] at H
      have c6b0 : decide (65536 ≤ ((x3_2 * 2) % 4294967296)) = false := decide_eq_false c6
      clear c6
      have H' := a_ H
      clear H
      go_wp2
      go_roundg k2
      case measure => have := HK1.out; have := HK2.out; omega
      case rel => exact ⟨((x3_2 * 2) % 4294967296), (wrap64 (x5_2 + 1)), fz_, fz_, H', ⟨by have := HK1.out; have := HK2.out; omega⟩, dr_⟩
     rw [if_pos c6] at H
     have c6b0 : decide (65536 ≤ ((x3_2 * 2) % 4294967296)) = true := decide_eq_true c6
     clear c6
     have H' := a_ H
     clear H
     go_wp2
     go_roundg k2
     case measure => have := HK1.out; have := HK2.out; omega
     case rel => exact ⟨(Go.bits .xor .u32 ((((x3_2 * 2) % 4294967296) - 65536) % 4294967296) 4129), (wrap64 (x5_2 + 1)), fz_, fz_, H', ⟨by have := HK1.out; have := HK2.out; omega⟩, dr_⟩
/-! ### gafferref01_check: function 65 -/
def gafferref01_check.f (k : Nat) (a0 : ByteArray) : Option (ByteArray) := (gafferref01_Sum.f k a0).bind fun t182 => (some (strOfNums (([(IntKind.u16.wrap (Int.tdiv t182 256)) % 256, (t182) % 256] : List Int))))
theorem gafferref01_check.mono : ∀ a0 k, LeO (gafferref01_check.f k a0) (gafferref01_check.f (k + 1) a0) := by
 intro a0 k
 unfold gafferref01_check.f
 repeat' with_reducible first | apply gafferref01_Sum.mono | apply LeO.refl | apply LeO.none | apply LeO.ite | refine LeO.bind ?_ (fun _ => ?_)
theorem gafferref01_check.calls (k : Nat) (a0 : ByteArray) (r : ByteArray) (w : World) (h : gafferref01_check.f k a0 = some r) :
  Calls Try.prog 65 #[.string a0] w fun e w' => e = .returned (.string r) ∧ Below w.heap.size w w' := by
 have HB := a_ (Below.refl w.heap.size w)
 have H : ((gafferref01_Sum.f k a0).bind fun t182 => (some (strOfNums (([(IntKind.u16.wrap (Int.tdiv t182 256)) % 256, (t182) % 256] : List Int))))) = some r := h
 clear h
 obtain ⟨t182, A20, H⟩ := Option.bind_eq_some_iff.mp H
 try dsimp only at H
 have A2 := a_ A20
 clear A20
 obtain ⟨y183, hy183⟩ : ∃ y_ : List Int, y_ = (([(IntKind.u16.wrap (Int.tdiv t182 256)) % 256, (t182) % 256] : List Int)) := ⟨_, rfl⟩
 replace H : (some (strOfNums y183)) = some r := by first | (rw [hy183]; with_reducible exact H) | (have H2_ := (Option.bind_some _ _).symm.trans H; rw [hy183]; with_reducible exact H2_) | (have H2_ := (Option.bind_some _ _).symm.trans H; with_reducible exact H2_) | with_reducible exact H | (rw [hy183]; exact H) | exact H
 have Ny183 := a_ hy183
 clear hy183
 obtain rfl := Option.some.inj H
 go_enter Try.func65, Try.ntmps65
 go_wp2_with (first | ((with_reducible refine gk_ 95 ?_); refine gl_ (some 5) Try.func95 #[.string a0] ?_; (with_reducible refine (gafferref01_Sum.calls k a0 t182 _ A2.out).mono ?_); rintro e w' ⟨rfl, ⟨nd, rfl⟩⟩; refine ⟨_, rfl, ?_⟩) | ((with_reducible refine gd_ 11 ?_); refine Kd.R_lit (Kd.int .u8) _ 5 ?hg (N := 11) ?hd (xs := ([(IntKind.u16.wrap (Int.tdiv t182 256)) % 256, (t182) % 256] : List Int)) (inner := [.int .u8 ((IntKind.u16.wrap (Int.tdiv t182 256)) % 256), .int .u8 ((t182) % 256)]) (ok := fun _ => True) (okp := fun _ => True) ?hr ?hp (fun _ hk => hk) trivial (Below.refl _ _) (Nat.le_refl _) (by simp) ?_; (case hd => rfl); (case hg => rfl); (case hr => first | (go_simp; done) | (go_simp; rfl)); (case hp => exact (Reps.one (show Kd.M (Kd.int .u8) _ _ _ ((IntKind.u16.wrap (Int.tdiv t182 256)) % 256) [.int .u8 ((IntKind.u16.wrap (Int.tdiv t182 256)) % 256)] from rfl) (Reps.one (show Kd.M (Kd.int .u8) _ _ _ ((t182) % 256) [.int .u8 ((t182) % 256)] from rfl) (Reps.none _ _)))); intro v184 w3 ho4 hb hg_ hnew_; clear hg_ hnew_; (first | rw [← Ny183.out] at ho4 | (simp only [Int.reduceToNat] at ho4; rw [← Ny183.out] at ho4)); have HO185 := a_ (Kd.R_lower ho4 (below_size (bl_ HB))); replace HB := hB_ (bl_ HB) hb; clear hb ho4; have hcv5 := own_string (P := Try.prog) Try.underlying111 Try.underlying5 Try.underlying9 (Kd.own_of_R HO185.out)))
 go_ret
 exact ⟨fz_, bl_ HB⟩

def gafferref01_TakeFrame.l0 : Nat → ByteArray → Int → Int → Option (ByteArray × ByteArray × Int)
 | 0, _, _, _ => none
 | k + 1, x0, x5, x6 => if x6 < 4 then (if 0 ≤ x6 then (if x6 < (x0.size : Int) then (gafferref01_TakeFrame.l0 k x0 (IntKind.u64.wrap ((IntKind.u64.wrap (256 * x5)) + (IntKind.u64.wrap (bt x0 x6)))) (wrap64 (x6 + 1))) else (none)) else (none)) else (if x5 > 65536 then (some ((⟨#[]⟩ : ByteArray), (⟨#[]⟩ : ByteArray), 2)) else (if (IntKind.u64.wrap ((x0.size : Int))) < (IntKind.u64.wrap (x5 + 6)) then (some ((⟨#[]⟩ : ByteArray), (⟨#[]⟩ : ByteArray), 3)) else (if 6 ≤ (IntKind.u64.wrap (x5 + 6)) then (if (IntKind.u64.wrap (x5 + 6)) ≤ (x0.size : Int) then (if 0 ≤ 4 then (if 4 ≤ (x0.size : Int) then (if (x0.extract 0 4).size + (x0.extract 6 ((IntKind.u64.wrap (x5 + 6)) : Int).toNat).size ≤ 9223372036854775807 then ((gafferref01_check.f k ((x0.extract 0 4) ++ (x0.extract 6 ((IntKind.u64.wrap (x5 + 6)) : Int).toNat))).bind fun t186 => (if 4 ≤ 6 then (if 6 ≤ (x0.size : Int) then (if t186.toList = (x0.extract 4 6).toList then (if 0 ≤ (IntKind.u64.wrap (x5 + 6)) then (some (x0.extract 6 ((IntKind.u64.wrap (x5 + 6)) : Int).toNat, x0.extract ((IntKind.u64.wrap (x5 + 6)) : Int).toNat x0.size, 0)) else (none)) else (some ((⟨#[]⟩ : ByteArray), (⟨#[]⟩ : ByteArray), 4))) else (none)) else (none))) else (none)) else (none)) else (none)) else (none)) else (none))))
def gafferref01_TakeFrame.f (k : Nat) (a0 : ByteArray) : Option (ByteArray × ByteArray × Int) := if (a0.size : Int) < 4 then (some ((⟨#[]⟩ : ByteArray), (⟨#[]⟩ : ByteArray), 3)) else (gafferref01_TakeFrame.l0 k a0 0 0)
theorem gafferref01_TakeFrame.mono_l : ∀ k, (∀ y0 y1 y2, LeO (gafferref01_TakeFrame.l0 k y0 y1 y2) (gafferref01_TakeFrame.l0 (k + 1) y0 y1 y2))
 | 0 => fun _ _ _ r h => by simp [gafferref01_TakeFrame.l0] at h
 | k + 1 => by
  have ih0 := gafferref01_TakeFrame.mono_l k
  ·intro y0 y1 y2
   unfold gafferref01_TakeFrame.l0
   repeat' with_reducible first | apply ih0 | apply gafferref01_check.mono | apply LeO.refl | apply LeO.none | apply LeO.ite | refine LeO.bind ?_ (fun _ => ?_)
theorem gafferref01_TakeFrame.mono : ∀ a0 k, LeO (gafferref01_TakeFrame.f k a0) (gafferref01_TakeFrame.f (k + 1) a0) := by
 intro a0 k
 have ih0 := gafferref01_TakeFrame.mono_l k
 unfold gafferref01_TakeFrame.f
 repeat' with_reducible first | apply ih0 | apply gafferref01_check.mono | apply LeO.refl | apply LeO.none | apply LeO.ite | refine LeO.bind ?_ (fun _ => ?_)
def gafferref01_TakeFrame.T13 : Bool × List (List Nat × List Nat) := (true, [([], []), ([0], [0]), ([], []), ([1, 2], [1, 2]), ([3], [3]), ([], []), ([5], [5]), ([4, 6], [4, 6])])
def gafferref01_TakeFrame.B13 : List Nat := [0, 1, 0, 7, 15, 0, 32, 127]
theorem gafferref01_TakeFrame.tab13 : rtab .any (opsOf Try.f42 13) = gafferref01_TakeFrame.T13 := by kernel_rfl
theorem gafferref01_TakeFrame.bits13 : waitsOk gafferref01_TakeFrame.T13.2 gafferref01_TakeFrame.B13 = true := by kernel_rfl
def gafferref01_TakeFrame.T15 : Bool × List (List Nat × List Nat) := (true, [([], []), ([], []), ([], []), ([2], [2]), ([1, 3], [1, 3]), ([0, 0], [0]), ([4, 5, 0, 1, 2, 3, 4, 5], [4]), ([6, 0, 1, 2, 3, 4, 5, 6], [])])
def gafferref01_TakeFrame.B15 : List Nat := [0, 0, 0, 4, 14, 1, 63, 127]
theorem gafferref01_TakeFrame.tab15 : rtab .any (opsOf Try.f42 15) = gafferref01_TakeFrame.T15 := by kernel_rfl
theorem gafferref01_TakeFrame.bits15 : waitsOk gafferref01_TakeFrame.T15.2 gafferref01_TakeFrame.B15 = true := by kernel_rfl
theorem gafferref01_TakeFrame.calls (k : Nat) (a0 : ByteArray) (r1 : ByteArray) (r2 : ByteArray) (r3 : Int) (w : World) (h : gafferref01_TakeFrame.f k a0 = some (r1, r2, r3)) :
  Calls Try.prog 42 #[.string a0] w fun e w' => e = .returned (.tuple #[.string r1, .string r2, .int .i64 r3]) ∧ Below w.heap.size w w' := by
 have HB := a_ (Below.refl w.heap.size w)
 have H : (if (a0.size : Int) < 4 then (some ((⟨#[]⟩ : ByteArray), (⟨#[]⟩ : ByteArray), 3)) else (gafferref01_TakeFrame.l0 k a0 0 0)) = some (r1, r2, r3) := h
 clear h
 by_cases c2 : (a0.size : Int) < 4
 ·rw [if_pos c2] at H
  have c2b0 : decide ((a0.size : Int) < 4) = true := decide_eq_true c2
  have c2b1 : decide (a0.size < 4) = true := decide_eq_true (by omega)
  clear c2
  simp only [Option.some.injEq, Prod.mk.injEq] at H
  obtain ⟨rfl, rfl, rfl⟩ := H
  go_enter Try.func42, Try.ntmps42
  go_wp2
  go_ret3
  exact ⟨fz_, bl_ HB⟩
 rw [if_neg c2] at H
 have c2b0 : decide ((a0.size : Int) < 4) = false := decide_eq_false c2
 have c2b1 : decide (a0.size < 4) = false := decide_eq_false (by omega)
 clear c2
 have H' := a_ H
 clear H
 go_enter Try.func42, Try.ntmps42
 go_wp2
 go_loopg [5, 6] k (fun kq v5 v6 w' => ∃ (x5_1 : Int) (x6_1 : Int), v5 = .int .u64 x5_1 ∧ v6 = .int .i64 x6_1 ∧ Aside0 (gafferref01_TakeFrame.l0 kq a0 x5_1 x6_1 = some (r1, r2, r3)) ∧ Aside0 (kq ≤ k) ∧ Aside0 (Below w.heap.size w w'))
 case atStart => exact ⟨(0), (0), fz_, fz_, H', ⟨Nat.le_refl _⟩, ⟨bl_ HB⟩⟩
 case round =>
  clear H'
  try clear c2
  try clear c2b0
  try clear c2b1
  try clear p2
  obtain ⟨x5_1, x6_1, rfl, rfl, HA, HK1, HB⟩ := hrel
  cases gk with
  | zero => exact absurd HA.out (by simp [gafferref01_TakeFrame.l0])
  | succ k1 =>
   have H := HA.out
   clear HA
   simp only [gafferref01_TakeFrame.l0] at H
   by_cases c3 : x6_1 < 4
   ·rw [if_pos c3] at H
    have c3b0 : decide (x6_1 < 4) = true := decide_eq_true c3
    clear c3
    by_cases c4 : 0 ≤ x6_1
    rotate_left
    ·rw [if_neg c4] at H
     exact absurd H (by simp)
    rw [if_pos c4] at H
    have c4b0 : decide (0 ≤ x6_1) = true := decide_eq_true c4
    clear c4
    by_cases c5 : x6_1 < (a0.size : Int)
    rotate_left
    ·rw [if_neg c5] at H
     exact absurd H (by simp)
    rw [if_pos c5] at H
    have c5b0 : decide (x6_1 < (a0.size : Int)) = true := decide_eq_true c5
    clear c5
    have H' := a_ H
    clear H
    have p6 : 0 ≤ (x6_1 : Int) := od_
    have q6 : x6_1 < (a0.size : Int) := od_
    have hx6 := bt_at a0 x6_1
    replace p6 := eq_true p6
    replace q6 := eq_true q6
    go_wp2
    go_roundg k1
    case measure => have := HK1.out; omega
    case rel => exact ⟨(IntKind.u64.wrap ((IntKind.u64.wrap (256 * x5_1)) + (IntKind.u64.wrap (bt a0 x6_1)))), (wrap64 (x6_1 + 1)), fz_, fz_, H', ⟨by have := HK1.out; omega⟩, ⟨bl_ HB⟩⟩
   rw [if_neg c3] at H
   have c3b0 : decide (x6_1 < 4) = false := decide_eq_false c3
   clear c3
   by_cases c7 : x5_1 > 65536
   ·rw [if_pos c7] at H
    have c7b0 : decide (65536 < x5_1) = true := decide_eq_true c7
    clear c7
    simp only [Option.some.injEq, Prod.mk.injEq] at H
    obtain ⟨rfl, rfl, rfl⟩ := H
    go_wp2
    go_ret3
    exact ⟨fz_, bl_ HB⟩
   rw [if_neg c7] at H
   have c7b0 : decide (65536 < x5_1) = false := decide_eq_false c7
   clear c7
   by_cases c8 : (IntKind.u64.wrap ((a0.size : Int))) < (IntKind.u64.wrap (x5_1 + 6))
   ·rw [if_pos c8] at H
    have c8b0 : decide ((IntKind.u64.wrap ((a0.size : Int))) < (IntKind.u64.wrap (x5_1 + 6))) = true := decide_eq_true c8
    clear c8
    simp only [Option.some.injEq, Prod.mk.injEq] at H
    obtain ⟨rfl, rfl, rfl⟩ := H
    go_wp2
    go_ret3
    exact ⟨fz_, bl_ HB⟩
   rw [if_neg c8] at H
   have c8b0 : decide ((IntKind.u64.wrap ((a0.size : Int))) < (IntKind.u64.wrap (x5_1 + 6))) = false := decide_eq_false c8
   clear c8
   by_cases c9 : 6 ≤ (IntKind.u64.wrap (x5_1 + 6))
   rotate_left
   ·rw [if_neg c9] at H
    exact absurd H (by simp)


   rw [if_pos c9] at H
   have c9b0 := eq_true c9
   have c9b1 : decide (6 ≤ (IntKind.u64.wrap (x5_1 + 6))) = true := decide_eq_true c9
   clear c9
   by_cases c10 : (IntKind.u64.wrap (x5_1 + 6)) ≤ (a0.size : Int)
   rotate_left
   ·rw [if_neg c10] at H
    exact absurd H (by simp)
   rw [if_pos c10] at H
   have c10b0 := eq_true c10
   have c10b1 : decide ((IntKind.u64.wrap (x5_1 + 6)) ≤ (a0.size : Int)) = true := decide_eq_true c10
   clear c10
   by_cases c11 : 0 ≤ 4
   rotate_left
   ·rw [if_neg c11] at H
    exact absurd H (by simp)
   rw [if_pos c11] at H
   have c11b0 := eq_true c11
   have c11b1 : decide (0 ≤ 4) = true := decide_eq_true c11
   clear c11
   by_cases c12 : 4 ≤ (a0.size : Int)
   rotate_left
   ·rw [if_neg c12] at H
    exact absurd H (by simp)
   rw [if_pos c12] at H
   have c12b0 := eq_true c12
   have c12b1 : decide (4 ≤ (a0.size : Int)) = true := decide_eq_true c12
   clear c12
   by_cases c13 : (a0.extract 0 4).size + (a0.extract 6 ((IntKind.u64.wrap (x5_1 + 6)) : Int).toNat).size ≤ 9223372036854775807
   rotate_left
   ·rw [if_neg c13] at H
    exact absurd H (by simp)
   rw [if_pos c13] at H
   have c13b0 := eq_true c13
   have c13b1 : decide ((a0.extract 0 4).size + (a0.extract 6 ((IntKind.u64.wrap (x5_1 + 6)) : Int).toNat).size ≤ 9223372036854775807) = true := decide_eq_true c13
   try have c13b2 : (9223372036854775807 < (a0.extract 0 4).size + (a0.extract 6 ((IntKind.u64.wrap (x5_1 + 6)) : Int).toNat).size) = False := eq_false (Nat.not_lt.2 c13)
   clear c13
   obtain ⟨t186, A140, H⟩ := Option.bind_eq_some_iff.mp H
   try dsimp only at H
   have A14 := a_ A140
   clear A140
   by_cases c15 : 4 ≤ 6
   rotate_left
   ·rw [if_neg c15] at H
    exact absurd H (by simp)
   rw [if_pos c15] at H
   have c15b0 := eq_true c15
   have c15b1 : decide (4 ≤ 6) = true := decide_eq_true c15
   clear c15
   by_cases c16 : 6 ≤ (a0.size : Int)
   rotate_left
   ·rw [if_neg c16] at H
    exact absurd H (by simp)
   rw [if_pos c16] at H
   have c16b0 := eq_true c16
   have c16b1 : decide (6 ≤ (a0.size : Int)) = true := decide_eq_true c16
   clear c16
   by_cases c17 : t186.toList = (a0.extract 4 6).toList
   rotate_left
   ·rw [if_neg c17] at H
    have c17b0 : (t186.toList == (a0.extract 4 6).toList) = false := beq_eq_false_iff_ne.mpr c17
    have c17b1 : (t186.toList != (a0.extract 4 6).toList) = true := bne_iff_ne.mpr c17
    simp only [Option.some.injEq, Prod.mk.injEq] at H
    obtain ⟨rfl, rfl, rfl⟩ := H
    try go_wp2
    have n0_ := a_ (below_drew1 HB.out)
    clear HB
    have HB := n0_
    clear n0_
    refine start_ (n := 8) (S := fun w' => True) (ds := []) #[false, false, false, false, false, false, false, false] (by kernel_rfl) rfl rfl trivial (fun hHeld => ?_); refine with_tabW gafferref01_TakeFrame.tab13 gafferref01_TakeFrame.bits13 (fun HT_ HW_ => ?_)
    generalize wr.drew = w24 at HB hHeld ⊢
    refine pure_ (i := 0) (N := some 34) (v := ?_) (a' := ?_) #[true, false, false, false, false, false, false, false] rfl rfl (any_of HT_.out (by kernel_rfl)) (fun _ _ _ h => h) (Or.inl ⟨by rfl, ?_⟩) ?_ ?_
    rotate_left
    ·intro w'
     go_simp
     first | (with_reducible rfl) | (rw [(rr_)]; try with_reducible rfl)
    rotate_left
    ·exact ap_
    refine pure_ (i := 1) (N := some 35) (v := ?_) (a' := ?_) #[true, true, false, false, false, false, false, false] rfl rfl (any_of HT_.out (by kernel_rfl)) (fun _ _ _ h => h) (Or.inl ⟨by rfl, ?_⟩) ?_ ?_
    rotate_left
    ·intro w'
     go_simp
     first | (with_reducible rfl) | (rw [(rr_)]; try with_reducible rfl)
    rotate_left
    ·exact ap_
    refine pure_ (i := 2) (N := some 36) (v := ?_) (a' := ?_) #[true, true, true, false, false, false, false, false] rfl rfl (any_of HT_.out (by kernel_rfl)) (fun _ _ _ h => h) (Or.inl ⟨by rfl, ?_⟩) ?_ ?_
    rotate_left
    ·intro w'
     go_simp
     first | (with_reducible rfl) | (rw [(rr_)]; try with_reducible rfl)
    rotate_left
    ·exact ap_
    refine pure_ (i := 3) (N := some 37) (v := ?_) (a' := ?_) #[true, true, true, true, false, false, false, false] rfl rfl (any_of HT_.out (by kernel_rfl)) (fun _ _ _ h => h) (Or.inl ⟨by rfl, ?_⟩) ?_ ?_
    rotate_left
    ·intro w'
     go_simp
     first | (with_reducible rfl) | (rw [(rr_)]; try with_reducible rfl)
    rotate_left
    ·exact ap_
    refine pure_ (i := 5) (N := some 39) (v := ?_) (a' := ?_) #[true, true, true, true, false, true, false, false] rfl rfl (any_of HT_.out (by kernel_rfl)) (fun _ _ _ h => h) (Or.inl ⟨by rfl, ?_⟩) ?_ ?_
    rotate_left
    ·intro w'
     go_simp
     first | (with_reducible rfl) | (rw [(rr_)]; try with_reducible rfl)
    rotate_left
    ·exact ap_
    refine pure_ (i := 6) (N := some 40) (v := ?_) (a' := ?_) #[true, true, true, true, false, true, true, false] rfl rfl (any_of HT_.out (by kernel_rfl)) (fun _ _ _ h => h) (Or.inl ⟨by rfl, ?_⟩) ?_ ?_
    rotate_left
    ·intro w'
     go_simp
     first | (with_reducible rfl) | (rw [(rr_)]; try with_reducible rfl)
    rotate_left
    ·exact ap_
    refine one_ (i := 4) (N := some 38) #[true, true, true, true, true, true, true, false] rfl rfl (one_of HT_.out (by kernel_rfl)) (by decide) (fun K hK => ?_)
    refine goes_ Try.func65 (by kernel_rfl) rfl #[.string ((a0.extract 0 4) ++ (a0.extract 6 ((IntKind.u64.wrap (x5_1 + 6)) : Int).toNat))] (by rfl) rfl rfl (ar_) ?_
    with_reducible refine (gafferref01_check.calls k1 ((a0.extract 0 4) ++ (a0.extract 6 ((IntKind.u64.wrap (x5_1 + 6)) : Int).toNat)) t186 _ A14.out).mono ?_
    rintro e w25 ⟨rfl, hb⟩
    refine ⟨_, rfl, ?_⟩
    have n0_ := hB_ (bl_ HB) hb
    clear HB
    have HB := n0_
    clear n0_
    (try clear hb)
    (try clear hb2)
    (try clear hk)
    (try clear hi)
    refine hK.out _ _ trivial (fun hHeld => ?_)
    clear hK K
    refine norm_ (a' := ?_) ?_ ?_
    rotate_left
    ·show Act.put _ (some 38) _ = _
     simp only [Act.put, List.setIfInBounds_toArray, List.set_cons_zero, List.set_cons_succ, i64_w, i32_w]
     rfl
    refine pure_ (i := 7) (N := some 41) (v := ?_) (a' := ?_) #[true, true, true, true, true, true, true, true] rfl rfl (any_of HT_.out (by kernel_rfl)) (fun _ _ _ h => h) (Or.inl ⟨by rfl, ?_⟩) ?_ ?_
    rotate_left
    ·intro w'
     go_simp
     first | (with_reducible rfl) | (rw [(rr_)]; try with_reducible rfl)
    rotate_left
    ·exact ap_
    refine done_ (done_of HT_.out (by kernel_rfl)) ?_
    try go_wp2
    go_ret3
    exact ⟨fz_, bl_ HB⟩
   rw [if_pos c17] at H
   have c17b0 : (t186.toList == (a0.extract 4 6).toList) = true := beq_iff_eq.mpr c17
   have c17b1 : (t186.toList != (a0.extract 4 6).toList) = false := bne_eq_false_iff_eq.mpr c17
   clear c17
   obtain ⟨ji18, hji18⟩ : ∃ j_ : Int, (IntKind.u64.wrap (x5_1 + 6)) = j_ := ⟨_, rfl⟩
   replace H : (if 0 ≤ (ji18) then (some (a0.extract 6 ((ji18) : Int).toNat, a0.extract ((ji18) : Int).toNat a0.size, 0)) else (none)) = some (r1, r2, r3) := by first | (rw [hji18] at H; exact H) | (simp only [hji18] at H ⊢; exact H)
   (try rw [hji18] at c8b0)
   (try rw [hji18] at c9b0)
   (try rw [hji18] at c9b1)
   (try rw [hji18] at c10b0)
   (try rw [hji18] at c10b1)
   (try rw [hji18] at c13b0)
   (try rw [hji18] at c13b1)
   (try rw [hji18] at A14)
   by_cases c19 : 0 ≤ (ji18)
   rotate_left
   ·rw [if_neg c19] at H
    exact absurd H (by simp)
   rw [if_pos c19] at H
   have c19b0 := eq_true c19
   have c19b1 : decide (0 ≤ (ji18)) = true := decide_eq_true c19
   clear c19
   have c20b0 := eq_true (od_ : (ji18) ≤ (a0.size : Int))
   simp only [Option.some.injEq, Prod.mk.injEq] at H
   obtain ⟨rfl, rfl, rfl⟩ := H
   try go_wp2
   have n0_ := a_ (below_drew1 HB.out)
   clear HB
   have HB := n0_
   clear n0_
   refine start_ (n := 8) (S := fun w' => True) (ds := []) #[false, false, false, false, false, false, false, false] (by kernel_rfl) rfl rfl trivial (fun hHeld => ?_); refine with_tabW gafferref01_TakeFrame.tab13 gafferref01_TakeFrame.bits13 (fun HT_ HW_ => ?_)
   generalize wr.drew = w21 at HB hHeld ⊢
   refine pure_ (i := 0) (N := some 34) (v := ?_) (a' := ?_) #[true, false, false, false, false, false, false, false] rfl rfl (any_of HT_.out (by kernel_rfl)) (fun _ _ _ h => h) (Or.inl ⟨by rfl, ?_⟩) ?_ ?_
   rotate_left
   ·intro w'
    go_simp
    first | (with_reducible rfl) | (rw [(rr_)]; try with_reducible rfl)
   rotate_left
   ·exact ap_
   refine pure_ (i := 1) (N := some 35) (v := ?_) (a' := ?_) #[true, true, false, false, false, false, false, false] rfl rfl (any_of HT_.out (by kernel_rfl)) (fun _ _ _ h => h) (Or.inl ⟨by rfl, ?_⟩) ?_ ?_
   rotate_left
   ·intro w'
    go_simp
    first | (with_reducible rfl) | (rw [(rr_)]; try with_reducible rfl)
   rotate_left
   ·exact ap_
   refine pure_ (i := 2) (N := some 36) (v := ?_) (a' := ?_) #[true, true, true, false, false, false, false, false] rfl rfl (any_of HT_.out (by kernel_rfl)) (fun _ _ _ h => h) (Or.inl ⟨by rfl, ?_⟩) ?_ ?_
   rotate_left
   ·intro w'
    go_simp
    first | (with_reducible rfl) | (rw [(rr_)]; try with_reducible rfl)
   rotate_left
   ·exact ap_
   refine pure_ (i := 3) (N := some 37) (v := ?_) (a' := ?_) #[true, true, true, true, false, false, false, false] rfl rfl (any_of HT_.out (by kernel_rfl)) (fun _ _ _ h => h) (Or.inl ⟨by rfl, ?_⟩) ?_ ?_
   rotate_left
   ·intro w'
    go_simp
    first | (with_reducible rfl) | (rw [(rr_)]; try with_reducible rfl)
   rotate_left
   ·exact ap_
   refine pure_ (i := 5) (N := some 39) (v := ?_) (a' := ?_) #[true, true, true, true, false, true, false, false] rfl rfl (any_of HT_.out (by kernel_rfl)) (fun _ _ _ h => h) (Or.inl ⟨by rfl, ?_⟩) ?_ ?_
   rotate_left
   ·intro w'
    go_simp
    first | (with_reducible rfl) | (rw [(rr_)]; try with_reducible rfl)
   rotate_left
   ·exact ap_
   refine pure_ (i := 6) (N := some 40) (v := ?_) (a' := ?_) #[true, true, true, true, false, true, true, false] rfl rfl (any_of HT_.out (by kernel_rfl)) (fun _ _ _ h => h) (Or.inl ⟨by rfl, ?_⟩) ?_ ?_
   rotate_left
   ·intro w'
    go_simp
    first | (with_reducible rfl) | (rw [(rr_)]; try with_reducible rfl)
   rotate_left
   ·exact ap_
   refine one_ (i := 4) (N := some 38) #[true, true, true, true, true, true, true, false] rfl rfl (one_of HT_.out (by kernel_rfl)) (by decide) (fun K hK => ?_)
   refine goes_ Try.func65 (by kernel_rfl) rfl #[.string ((a0.extract 0 4) ++ (a0.extract 6 ((ji18) : Int).toNat))] (by rfl) rfl rfl (by (try simp only [List.map_toArray, List.map_cons, List.map_nil]); first | done | (simp only [hji18]; rfl) | rfl | (simp only [List.length_drop, List.length_take]; rfl)) ?_
   with_reducible refine (gafferref01_check.calls k1 ((a0.extract 0 4) ++ (a0.extract 6 ((ji18) : Int).toNat)) t186 _ A14.out).mono ?_
   rintro e w22 ⟨rfl, hb⟩
   refine ⟨_, rfl, ?_⟩
   have n0_ := hB_ (bl_ HB) hb
   clear HB
   have HB := n0_
   clear n0_
   (try clear hb)
   (try clear hb2)
   (try clear hk)
   (try clear hi)
   refine hK.out _ _ trivial (fun hHeld => ?_)
   clear hK K
   refine norm_ (a' := ?_) ?_ ?_
   rotate_left
   ·show Act.put _ (some 38) _ = _
    simp only [Act.put, List.setIfInBounds_toArray, List.set_cons_zero, List.set_cons_succ, i64_w, i32_w]
    rfl
   refine pure_ (i := 7) (N := some 41) (v := ?_) (a' := ?_) #[true, true, true, true, true, true, true, true] rfl rfl (any_of HT_.out (by kernel_rfl)) (fun _ _ _ h => h) (Or.inl ⟨by rfl, ?_⟩) ?_ ?_
   rotate_left
   ·intro w'
    go_simp
    first | (with_reducible rfl) | (rw [(rr_)]; try with_reducible rfl)
   rotate_left
   ·exact ap_
   refine done_ (done_of HT_.out (by kernel_rfl)) ?_
   try go_wp2
   have n0_ := a_ (below_drew1 HB.out)
   clear HB
   have HB := n0_
   clear n0_
   refine start_ (n := 8) (S := fun w' => True) (ds := []) #[false, false, false, false, false, false, false, false] (by kernel_rfl) rfl rfl trivial (fun hHeld => ?_); refine with_tabW gafferref01_TakeFrame.tab15 gafferref01_TakeFrame.bits15 (fun HT_ HW_ => ?_)
   generalize w22.drew = w23 at HB hHeld ⊢
   refine pure_ (i := 0) (N := some 42) (v := ?_) (a' := ?_) #[true, false, false, false, false, false, false, false] rfl rfl (any_of HT_.out (by kernel_rfl)) (fun _ _ _ h => h) (Or.inl ⟨by rfl, ?_⟩) ?_ ?_
   rotate_left
   ·intro w'
    go_simp
    first | (with_reducible rfl) | (rw [(rr_)]; try with_reducible rfl)
   rotate_left
   ·exact ap_
   refine pure_ (i := 1) (N := some 43) (v := ?_) (a' := ?_) #[true, true, false, false, false, false, false, false] rfl rfl (any_of HT_.out (by kernel_rfl)) (fun _ _ _ h => h) (Or.inl ⟨by rfl, ?_⟩) ?_ ?_
   rotate_left
   ·intro w'
    go_simp
    first | (with_reducible rfl) | (rw [(rr_)]; try with_reducible rfl)
   rotate_left
   ·exact ap_
   refine pure_ (i := 2) (N := some 44) (v := ?_) (a' := ?_) #[true, true, true, false, false, false, false, false] rfl rfl (any_of HT_.out (by kernel_rfl)) (fun _ _ _ h => h) (Or.inl ⟨by rfl, ?_⟩) ?_ ?_
   rotate_left
   ·intro w'
    go_simp
    first | (with_reducible rfl) | (rw [(rr_)]; try with_reducible rfl)
   rotate_left
   ·exact ap_
   refine pure_ (i := 3) (N := some 45) (v := ?_) (a' := ?_) #[true, true, true, true, false, false, false, false] rfl rfl (any_of HT_.out (by kernel_rfl)) (fun _ _ _ h => h) (Or.inl ⟨by rfl, ?_⟩) ?_ ?_
   rotate_left
   ·intro w'
    go_simp
    first | (with_reducible rfl) | (rw [(rr_)]; try with_reducible rfl)
   rotate_left
   ·exact ap_
   refine pure_ (i := 4) (N := some 46) (v := ?_) (a' := ?_) #[true, true, true, true, true, false, false, false] rfl rfl (any_of HT_.out (by kernel_rfl)) (fun _ _ _ h => h) (Or.inl ⟨by rfl, ?_⟩) ?_ ?_
   rotate_left
   ·intro w'
    go_simp
    first | (with_reducible rfl) | (rw [(rr_)]; try with_reducible rfl)
   rotate_left
   ·exact ap_
   refine pure_ (i := 5) (N := some 2) (v := ?_) (a' := ?_) #[true, true, true, true, true, true, false, false] rfl rfl (any_of HT_.out (by kernel_rfl)) (fun _ _ _ h => h) (Or.inl ⟨by rfl, ?_⟩) ?_ ?_
   rotate_left
   ·intro w'
    go_simp
    first | (with_reducible rfl) | (rw [(rr_)]; try with_reducible rfl)
   rotate_left
   ·exact ap_
   refine pure_ (i := 6) (N := some 3) (v := ?_) (a' := ?_) #[true, true, true, true, true, true, true, false] rfl rfl (any_of HT_.out (by kernel_rfl)) (fun _ _ _ h => h) (Or.inl ⟨by rfl, ?_⟩) ?_ ?_
   rotate_left
   ·intro w'
    go_simp
    first | (with_reducible rfl) | (rw [(rr_)]; try with_reducible rfl)
   rotate_left
   ·exact ap_
   refine pure_ (i := 7) (N := some 4) (v := ?_) (a' := ?_) #[true, true, true, true, true, true, true, true] rfl rfl (any_of HT_.out (by kernel_rfl)) (fun _ _ _ h => h) (Or.inl ⟨by rfl, ?_⟩) ?_ ?_
   rotate_left
   ·intro w'
    go_simp
    first | (with_reducible rfl) | (rw [(rr_)]; try with_reducible rfl)
   rotate_left
   ·exact ap_
   refine done_ (done_of HT_.out (by kernel_rfl)) ?_
   try go_wp2
   go_ret3
   exact ⟨by first | rfl | (simp [errW_none, errW_some] <;> rfl) | (simp only [← hji18]; first | rfl | (simp [errW_none, errW_some] <;> rfl)) | (simp [*, errW_none, errW_some] <;> rfl), bl_ HB⟩end Go.Proofs.Ytpigjmjbfpipnaa.PD
