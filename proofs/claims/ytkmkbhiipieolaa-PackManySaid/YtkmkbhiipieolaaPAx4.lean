-- Written for this claim by a program of this session. Lean checks it.
import Derived.Test.YtkmkbhiipieolaaPAx0
import Derived.Test.YtkmkbhiipieolaaPAx1
import Derived.Test.YtkmkbhiipieolaaPAx2
import Derived.Test.YtkmkbhiipieolaaPAx3
namespace Go.Proofs.Ytkmkbhiipieolaa.PA
open Go.RowKit Go.Proofs.YtkmkbhiipieolaaW.PrintWords Go.Proofs.YtkmkbhiipieolaaW.PrintLast Go.Proofs.YtkmkbhiipieolaaW.PrintMore Go.Proofs.Ytkmkbhiipieolaa.Sh Go.Proofs.Ytkmkbhiipieolaa.Op
attribute [local go_sem] max2_int min2_int max_two min_two max_three min_three max_four min_four   -- for this text's walks alone
set_option linter.unusedVariables false
set_option linter.unusedSimpArgs false

/-! ### gafferref01_check: function 34 -/
def gafferref01_check.f (k : Nat) (a0 : ByteArray) : Option (ByteArray) := (gafferref01_Sum.f k a0).bind fun t167 => (some (strOfNums (([(IntKind.u16.wrap (Int.tdiv t167 256)) % 256, (t167) % 256] : List Int))))
theorem gafferref01_check.mono : ∀ a0 k, LeO (gafferref01_check.f k a0) (gafferref01_check.f (k + 1) a0) := by
 intro a0 k
 unfold gafferref01_check.f
 repeat' first
   | (with_reducible exact gafferref01_Sum.mono _ _)
   | (with_reducible exact LeO.refl _)
   | (with_reducible exact LeO.none _)
   | (with_reducible refine LeO.ite ?_ ?_)
   | (with_reducible refine LeO.bind ?_ (fun _ => ?_))
   | exact gafferref01_Sum.mono _ _
   | exact LeO.none _
   | refine LeO.ite ?_ ?_
   | refine LeO.bind ?_ (fun _ => ?_)
set_option maxHeartbeats 80000000 in
set_option maxRecDepth 100000 in
theorem gafferref01_check.calls (k : Nat) (a0 : ByteArray) (r : ByteArray) (w : World) (h : gafferref01_check.f k a0 = some r) :
  Calls Try.prog 34 #[.string a0] w fun e w' => e = .returned (.string r) ∧ Below w.heap.size w w' := by
 have HB := Aside0.mk (Below.refl w.heap.size w)
 have H : ((gafferref01_Sum.f k a0).bind fun t167 => (some (strOfNums (([(IntKind.u16.wrap (Int.tdiv t167 256)) % 256, (t167) % 256] : List Int))))) = some r := h
 clear h
 replace H := Option.bind_eq_some_iff.mp H
 obtain ⟨t167, A20, H⟩ := H
 replace H : (some (strOfNums (([(IntKind.u16.wrap (Int.tdiv t167 256)) % 256, (t167) % 256] : List Int)))) = some r := H
 have A2 := Aside0.mk A20
 clear A20
 obtain ⟨y168, hy168⟩ : ∃ y_ : List Int, y_ = (([(IntKind.u16.wrap (Int.tdiv t167 256)) % 256, (t167) % 256] : List Int)) := ⟨_, rfl⟩
 replace H : (some (strOfNums y168)) = some r := by first | (rw [hy168]; with_reducible exact H) | (have H2_ := (Option.bind_some _ _).symm.trans H; rw [hy168]; with_reducible exact H2_) | (have H2_ := (Option.bind_some _ _).symm.trans H; with_reducible exact H2_) | with_reducible exact H | (rw [hy168]; exact H) | exact H
 have Ny168 := Aside0.mk hy168
 clear hy168
 obtain rfl := Option.some.inj H
 go_enter Try.func34, Try.ntmps34
 go_wp2_with (first | ((with_reducible refine gate_callee (f := 15) rfl ?_); refine goesL_ (some 5) rfl rfl Try.func15 (by kernel_rfl) rfl #[.string a0] rfl (ar_) ?_; (with_reducible refine (gafferref01_Sum.calls k a0 t167 _ A2.out).mono ?_); rintro e w' ⟨rfl, ⟨nd, rfl⟩⟩; refine ⟨_, rfl, ?_⟩) | ((with_reducible refine gate_dst (N := 11) rfl ?_); refine Kd.R_lit (Kd.int .u8) _ 5 ?hg (N := 11) ?hd (xs := ([(IntKind.u16.wrap (Int.tdiv t167 256)) % 256, (t167) % 256] : List Int)) (inner := [.int .u8 ((IntKind.u16.wrap (Int.tdiv t167 256)) % 256), .int .u8 ((t167) % 256)]) (ok := fun _ => True) (okp := fun _ => True) ?hr ?hp (fun _ hk => hk) trivial (Below.refl _ _) (Nat.le_refl _) (by simp) ?_; (case hd => rfl); (case hg => rfl); (case hr => first | (go_simp; done) | (go_simp; rfl)); (case hp => exact (Reps.one (show Kd.M (Kd.int .u8) _ _ _ ((IntKind.u16.wrap (Int.tdiv t167 256)) % 256) [.int .u8 ((IntKind.u16.wrap (Int.tdiv t167 256)) % 256)] from rfl) (Reps.one (show Kd.M (Kd.int .u8) _ _ _ ((t167) % 256) [.int .u8 ((t167) % 256)] from rfl) (Reps.none _ _)))); intro v169 w3 ho4 hb hg_ hnew_; clear hg_ hnew_; (first | rw [← Ny168.out] at ho4 | (simp only [Int.reduceToNat] at ho4; rw [← Ny168.out] at ho4)); have HO170 := Aside0.mk (Kd.R_lower ho4 (below_size (bl_ HB))); replace HB := Aside0.mk (below_step (bl_ HB) hb); clear hb ho4; have hcv5 := own_string (P := Try.prog) Try.underlying39 Try.underlying5 Try.underlying9 (Kd.own_of_R HO170.out)))
 go_ret
 exact ⟨by first | rfl | (simp; done) | (simp [*]; done), bl_ HB⟩

/-! ### gafferref01_Frame: function 26 -/
def gafferref01_Frame.f (k : Nat) (a0 : ByteArray) : Option (ByteArray × Int) := if (a0.size : Int) > 65536 then (some ((⟨#[]⟩ : ByteArray), 2)) else ((gafferref01_four.f (a0.size : Int)).bind fun t171 => (if t171.size + a0.size ≤ 9223372036854775807 then ((gafferref01_check.f k (t171 ++ a0)).bind fun t172 => (if t171.size + t172.size ≤ 9223372036854775807 then (if (t171 ++ t172).size + a0.size ≤ 9223372036854775807 then (some ((t171 ++ t172) ++ a0, 0)) else (none)) else (none))) else (none)))
theorem gafferref01_Frame.mono : ∀ a0 k, LeO (gafferref01_Frame.f k a0) (gafferref01_Frame.f (k + 1) a0) := by
 intro a0 k
 unfold gafferref01_Frame.f
 repeat' first
   | (with_reducible exact gafferref01_check.mono _ _)
   | (with_reducible exact LeO.refl _)
   | (with_reducible exact LeO.none _)
   | (with_reducible refine LeO.ite ?_ ?_)
   | (with_reducible refine LeO.bind ?_ (fun _ => ?_))
   | exact gafferref01_check.mono _ _
   | exact LeO.none _
   | refine LeO.ite ?_ ?_
   | refine LeO.bind ?_ (fun _ => ?_)
set_option maxHeartbeats 80000000 in
set_option maxRecDepth 100000 in
theorem gafferref01_Frame.calls (k : Nat) (a0 : ByteArray) (r1 : ByteArray) (r2 : Int) (w : World) (h : gafferref01_Frame.f k a0 = some (r1, r2)) :
  Calls Try.prog 26 #[.string a0] w fun e w' => e = .returned (.tuple #[.string r1, .int .i64 r2]) ∧ Below w.heap.size w w' := by
 have HB := Aside0.mk (Below.refl w.heap.size w)
 have H : (if (a0.size : Int) > 65536 then (some ((⟨#[]⟩ : ByteArray), 2)) else ((gafferref01_four.f (a0.size : Int)).bind fun t171 => (if t171.size + a0.size ≤ 9223372036854775807 then ((gafferref01_check.f k (t171 ++ a0)).bind fun t172 => (if t171.size + t172.size ≤ 9223372036854775807 then (if (t171 ++ t172).size + a0.size ≤ 9223372036854775807 then (some ((t171 ++ t172) ++ a0, 0)) else (none)) else (none))) else (none)))) = some (r1, r2) := h
 clear h
 by_cases c2 : (a0.size : Int) > 65536
 ·rw [if_pos c2] at H
  have c2b0 : decide (65536 < (a0.size : Int)) = true := decide_eq_true c2
  have c2b1 : decide (65536 < a0.size) = true := decide_eq_true (by omega)
  clear c2
  simp only [Option.some.injEq, Prod.mk.injEq] at H
  obtain ⟨rfl, rfl⟩ := H
  go_enter Try.func26, Try.ntmps26
  go_wp2
  go_ret2
  exact ⟨by first | rfl | (simp; done) | (simp [*]; done), bl_ HB⟩
 ·rw [if_neg c2] at H
  have c2b0 : decide (65536 < (a0.size : Int)) = false := decide_eq_false c2
  have c2b1 : decide (65536 < a0.size) = false := decide_eq_false (by omega)
  clear c2
  replace H := Option.bind_eq_some_iff.mp H
  obtain ⟨t171, A30, H⟩ := H
  replace H : (if t171.size + a0.size ≤ 9223372036854775807 then ((gafferref01_check.f k (t171 ++ a0)).bind fun t172 => (if t171.size + t172.size ≤ 9223372036854775807 then (if (t171 ++ t172).size + a0.size ≤ 9223372036854775807 then (some ((t171 ++ t172) ++ a0, 0)) else (none)) else (none))) else (none)) = some (r1, r2) := H
  have A3 := Aside0.mk A30
  clear A30
  by_cases c4 : t171.size + a0.size ≤ 9223372036854775807
  ·rw [if_pos c4] at H
   have c4b0 := eq_true c4
   have c4b1 : decide (t171.size + a0.size ≤ 9223372036854775807) = true := decide_eq_true c4
   try have c4b2 : (9223372036854775807 < t171.size + a0.size) = False := eq_false (Nat.not_lt.2 c4)
   clear c4
   replace H := Option.bind_eq_some_iff.mp H
   obtain ⟨t172, A50, H⟩ := H
   replace H : (if t171.size + t172.size ≤ 9223372036854775807 then (if (t171 ++ t172).size + a0.size ≤ 9223372036854775807 then (some ((t171 ++ t172) ++ a0, 0)) else (none)) else (none)) = some (r1, r2) := H
   have A5 := Aside0.mk A50
   clear A50
   by_cases c6 : t171.size + t172.size ≤ 9223372036854775807
   ·rw [if_pos c6] at H
    have c6b0 := eq_true c6
    have c6b1 : decide (t171.size + t172.size ≤ 9223372036854775807) = true := decide_eq_true c6
    try have c6b2 : (9223372036854775807 < t171.size + t172.size) = False := eq_false (Nat.not_lt.2 c6)
    clear c6
    by_cases c7 : (t171 ++ t172).size + a0.size ≤ 9223372036854775807
    ·rw [if_pos c7] at H
     have c7b0 := eq_true c7
     have c7b1 : decide ((t171 ++ t172).size + a0.size ≤ 9223372036854775807) = true := decide_eq_true c7
     try have c7b2 : (9223372036854775807 < (t171 ++ t172).size + a0.size) = False := eq_false (Nat.not_lt.2 c7)
     clear c7
     simp only [Option.some.injEq, Prod.mk.injEq] at H
     obtain ⟨rfl, rfl⟩ := H
     (try (have c7b0x := c7b0; simp only [ByteArray.size_extract, ByteArray.size_append, Nat.min_self, Nat.sub_zero] at c7b0x))
     (try (have c7b1x := c7b1; simp only [ByteArray.size_extract, ByteArray.size_append, Nat.min_self, Nat.sub_zero] at c7b1x))
     (try (have c7b2x := c7b2; simp only [ByteArray.size_extract, ByteArray.size_append, Nat.min_self, Nat.sub_zero] at c7b2x))
     go_enter Try.func26, Try.ntmps26
     go_wp2_with (first | ((with_reducible refine gate_callee (f := 33) rfl ?_); refine goesL_ (some 10) rfl rfl Try.func33 (by kernel_rfl) rfl #[.int .i64 (a0.size : Int)] rfl (ar_) ?_; (with_reducible refine (gafferref01_four.calls (a0.size : Int) t171 _ A3.out).mono ?_); rintro e w8 ⟨rfl, hb⟩; refine ⟨_, rfl, ?_⟩; replace HB := Aside0.mk (below_step (bl_ HB) hb); (try clear hb); (try clear hb2); (try clear hk); (try clear hi)) | ((with_reducible refine gate_callee (f := 34) rfl ?_); refine goesL_ (some 15) rfl rfl Try.func34 (by kernel_rfl) rfl #[.string (t171 ++ a0)] rfl (ar_) ?_; (with_reducible refine (gafferref01_check.calls k (t171 ++ a0) t172 _ A5.out).mono ?_); rintro e w9 ⟨rfl, hb⟩; refine ⟨_, rfl, ?_⟩; replace HB := Aside0.mk (below_step (bl_ HB) hb); (try clear hb); (try clear hb2); (try clear hk); (try clear hi)))
     go_ret2
     exact ⟨by first | rfl | (simp; done) | (simp [*]; done), bl_ HB⟩
    ·rw [if_neg c7] at H
     exact absurd H (by simp)
   ·rw [if_neg c6] at H
    exact absurd H (by simp)
  ·rw [if_neg c4] at H
   exact absurd H (by simp)

/-! ### pack_TakeFrame: function 27 -/
def pack_TakeFrame.j0 : Nat → ByteArray → Int → Bool → Option (ByteArray × ByteArray × Int)
 | 0, _, _, _ => none
 | k + 1, x0, x5, x18 => if x18 = true then (some ((⟨#[]⟩ : ByteArray), (⟨#[]⟩ : ByteArray), 3)) else (if 6 ≤ (wrap64 (6 + (wrap64 (x5)))) then (if (wrap64 (6 + (wrap64 (x5)))) ≤ (x0.size : Int) then ((pack_Frame.f k (x0.extract 6 ((wrap64 (6 + (wrap64 (x5)))) : Int).toNat)).bind fun bt174 => (if 0 ≤ (wrap64 (6 + (wrap64 (x5)))) then (if bt174.1.toList = (x0.extract 0 ((wrap64 (6 + (wrap64 (x5)))) : Int).toNat).toList then (some (x0.extract 6 ((wrap64 (6 + (wrap64 (x5)))) : Int).toNat, x0.extract ((wrap64 (6 + (wrap64 (x5)))) : Int).toNat x0.size, 0)) else (some ((⟨#[]⟩ : ByteArray), (⟨#[]⟩ : ByteArray), 4))) else (none))) else (none)) else (none))
def pack_TakeFrame.f (k : Nat) (a0 : ByteArray) : Option (ByteArray × ByteArray × Int) := if (a0.size : Int) < 4 then (some ((⟨#[]⟩ : ByteArray), (⟨#[]⟩ : ByteArray), 3)) else (if 0 ≤ 4 then (if 4 ≤ (a0.size : Int) then ((pack_value.f k (a0.extract 0 4)).bind fun t173 => (if t173 > 65536 then (some ((⟨#[]⟩ : ByteArray), (⟨#[]⟩ : ByteArray), 2)) else (if (a0.size : Int) < 6 then (pack_TakeFrame.j0 k a0 t173 true) else (pack_TakeFrame.j0 k a0 t173 (decide (t173 > (IntKind.u64.wrap (wrap64 ((a0.size : Int) - 6))))))))) else (none)) else (none))
theorem pack_TakeFrame.mono_l : ∀ k, (∀ y0 y1 y2, LeO (pack_TakeFrame.j0 k y0 y1 y2) (pack_TakeFrame.j0 (k + 1) y0 y1 y2))
 | 0 => fun _ _ _ r h => by simp [pack_TakeFrame.j0] at h
 | k + 1 => by
  have ih0 := pack_TakeFrame.mono_l k
  ·intro y0 y1 y2
   unfold pack_TakeFrame.j0
   repeat' first
   | (with_reducible exact ih0 _ _ _)
   | (with_reducible exact pack_Frame.mono _ _)
   | (with_reducible exact pack_value.mono _ _)
   | (with_reducible exact LeO.refl _)
   | (with_reducible exact LeO.none _)
   | (with_reducible refine LeO.ite ?_ ?_)
   | (with_reducible refine LeO.bind ?_ (fun _ => ?_))
   | exact ih0 _ _ _
   | exact pack_Frame.mono _ _
   | exact pack_value.mono _ _
   | exact LeO.none _
   | refine LeO.ite ?_ ?_
   | refine LeO.bind ?_ (fun _ => ?_)
theorem pack_TakeFrame.mono : ∀ a0 k, LeO (pack_TakeFrame.f k a0) (pack_TakeFrame.f (k + 1) a0) := by
 intro a0 k
 have ih0 := pack_TakeFrame.mono_l k
 unfold pack_TakeFrame.f
 repeat' first
   | (with_reducible exact ih0 _ _ _)
   | (with_reducible exact pack_Frame.mono _ _)
   | (with_reducible exact pack_value.mono _ _)
   | (with_reducible exact LeO.refl _)
   | (with_reducible exact LeO.none _)
   | (with_reducible refine LeO.ite ?_ ?_)
   | (with_reducible refine LeO.bind ?_ (fun _ => ?_))
   | exact ih0 _ _ _
   | exact pack_Frame.mono _ _
   | exact pack_value.mono _ _
   | exact LeO.none _
   | refine LeO.ite ?_ ?_
   | refine LeO.bind ?_ (fun _ => ?_)
set_option maxHeartbeats 80000000 in
set_option maxRecDepth 100000 in
theorem pack_TakeFrame.calls (k : Nat) (a0 : ByteArray) (r1 : ByteArray) (r2 : ByteArray) (r3 : Int) (w : World) (h : pack_TakeFrame.f k a0 = some (r1, r2, r3)) :
  Calls Try.prog 27 #[.string a0] w fun e w' => e = .returned (.tuple #[.string r1, .string r2, .int .i64 r3]) ∧ Below w.heap.size w w' := by
 have HB := Aside0.mk (Below.refl w.heap.size w)
 have H : (if (a0.size : Int) < 4 then (some ((⟨#[]⟩ : ByteArray), (⟨#[]⟩ : ByteArray), 3)) else (if 0 ≤ 4 then (if 4 ≤ (a0.size : Int) then ((pack_value.f k (a0.extract 0 4)).bind fun t173 => (if t173 > 65536 then (some ((⟨#[]⟩ : ByteArray), (⟨#[]⟩ : ByteArray), 2)) else (if (a0.size : Int) < 6 then (pack_TakeFrame.j0 k a0 t173 true) else (pack_TakeFrame.j0 k a0 t173 (decide (t173 > (IntKind.u64.wrap (wrap64 ((a0.size : Int) - 6))))))))) else (none)) else (none))) = some (r1, r2, r3) := h
 clear h
 by_cases c2 : (a0.size : Int) < 4
 ·rw [if_pos c2] at H
  have c2b0 : decide ((a0.size : Int) < 4) = true := decide_eq_true c2
  have c2b1 : decide (a0.size < 4) = true := decide_eq_true (by omega)
  clear c2
  simp only [Option.some.injEq, Prod.mk.injEq] at H
  obtain ⟨rfl, rfl, rfl⟩ := H
  go_enter Try.func27, Try.ntmps27
  go_wp2
  repeat (go_quiet (fail); try go_wp2)
  go_ret3
  exact ⟨by first | rfl | (simp; done) | (simp [*]; done), bl_ HB⟩
 ·rw [if_neg c2] at H
  have c2b0 : decide ((a0.size : Int) < 4) = false := decide_eq_false c2
  have c2b1 : decide (a0.size < 4) = false := decide_eq_false (by omega)
  clear c2
  by_cases c3 : 0 ≤ 4
  ·rw [if_pos c3] at H
   have c3b0 := eq_true c3
   have c3b1 : decide (0 ≤ 4) = true := decide_eq_true c3
   clear c3
   by_cases c4 : 4 ≤ (a0.size : Int)
   ·rw [if_pos c4] at H
    have c4b0 := eq_true c4
    have c4b1 : decide (4 ≤ (a0.size : Int)) = true := decide_eq_true c4
    clear c4
    replace H := Option.bind_eq_some_iff.mp H
    obtain ⟨t173, A50, H⟩ := H
    replace H : (if t173 > 65536 then (some ((⟨#[]⟩ : ByteArray), (⟨#[]⟩ : ByteArray), 2)) else (if (a0.size : Int) < 6 then (pack_TakeFrame.j0 k a0 t173 true) else (pack_TakeFrame.j0 k a0 t173 (decide (t173 > (IntKind.u64.wrap (wrap64 ((a0.size : Int) - 6)))))))) = some (r1, r2, r3) := H
    have A5 := Aside0.mk A50
    clear A50
    by_cases c6 : t173 > 65536
    ·rw [if_pos c6] at H
     have c6b0 : decide (65536 < t173) = true := decide_eq_true c6
     clear c6
     simp only [Option.some.injEq, Prod.mk.injEq] at H
     obtain ⟨rfl, rfl, rfl⟩ := H
     go_enter Try.func27, Try.ntmps27
     go_wp2_with (first | (go_at_call 31; (with_reducible refine (pack_value.calls k (a0.extract 0 4) t173 _ A5.out).mono ?_); rintro e w' ⟨rfl, ⟨nd, rfl⟩⟩; (try first | exact ⟨rfl, _, World.drewN_drewN _ _ _⟩ | exact ⟨rfl, _, Eq.trans (World.drewN_drewN _ _ _) (congrArg (World.drewN _) (Nat.add_assoc _ _ _))⟩)))
     repeat (go_quiet (first | (go_at_call 31; (with_reducible refine (pack_value.calls k (a0.extract 0 4) t173 _ A5.out).mono ?_); rintro e w' ⟨rfl, ⟨nd, rfl⟩⟩; (try first | exact ⟨rfl, _, World.drewN_drewN _ _ _⟩ | exact ⟨rfl, _, Eq.trans (World.drewN_drewN _ _ _) (congrArg (World.drewN _) (Nat.add_assoc _ _ _))⟩))); try go_wp2_with (first | (go_at_call 31; (with_reducible refine (pack_value.calls k (a0.extract 0 4) t173 _ A5.out).mono ?_); rintro e w' ⟨rfl, ⟨nd, rfl⟩⟩; (try first | exact ⟨rfl, _, World.drewN_drewN _ _ _⟩ | exact ⟨rfl, _, Eq.trans (World.drewN_drewN _ _ _) (congrArg (World.drewN _) (Nat.add_assoc _ _ _))⟩))))
     go_ret3
     exact ⟨by first | rfl | (simp; done) | (simp [*]; done), bl_ HB⟩
    ·rw [if_neg c6] at H
     have c6b0 : decide (65536 < t173) = false := decide_eq_false c6
     clear c6
     have HC7 := Aside0.mk H
     clear H
     go_enter Try.func27, Try.ntmps27
     go_upto_region 6 with (first | (go_at_call 31; (with_reducible refine (pack_value.calls k (a0.extract 0 4) t173 _ A5.out).mono ?_); rintro e w' ⟨rfl, ⟨nd, rfl⟩⟩; (try first | exact ⟨rfl, _, World.drewN_drewN _ _ _⟩ | exact ⟨rfl, _, Eq.trans (World.drewN_drewN _ _ _) (congrArg (World.drewN _) (Nat.add_assoc _ _ _))⟩)))
     repeat (go_quiet (first | (go_at_call 31; (with_reducible refine (pack_value.calls k (a0.extract 0 4) t173 _ A5.out).mono ?_); rintro e w' ⟨rfl, ⟨nd, rfl⟩⟩; (try first | exact ⟨rfl, _, World.drewN_drewN _ _ _⟩ | exact ⟨rfl, _, Eq.trans (World.drewN_drewN _ _ _) (congrArg (World.drewN _) (Nat.add_assoc _ _ _))⟩))); go_upto_region 6 with (first | (go_at_call 31; (with_reducible refine (pack_value.calls k (a0.extract 0 4) t173 _ A5.out).mono ?_); rintro e w' ⟨rfl, ⟨nd, rfl⟩⟩; (try first | exact ⟨rfl, _, World.drewN_drewN _ _ _⟩ | exact ⟨rfl, _, Eq.trans (World.drewN_drewN _ _ _) (congrArg (World.drewN _) (Nat.add_assoc _ _ _))⟩))))
     (try simp only [Act.put, List.setIfInBounds_toArray, List.set_cons_zero, List.set_cons_succ])
     go_cut [18] (fun v18 wc => ∃ (kq : Nat) (x18_6 : Bool), v18 = .bool x18_6 ∧ Aside0 (pack_TakeFrame.j0 kq a0 t173 x18_6 = some (r1, r2, r3)) ∧ Aside0 (kq ≤ k) ∧ Aside0 (Below w.heap.size w wc))
     case first =>
      have H := HC7.out
      clear HC7
      by_cases c8 : (a0.size : Int) < 6
      ·rw [if_pos c8] at H
       have c8b0 : decide ((a0.size : Int) < 6) = true := decide_eq_true c8
       have c8b1 : decide (a0.size < 6) = true := decide_eq_true (by omega)
       clear c8
       (first | rw [c8b0] | (simp only [i64_w, i32_w]; rw [c8b0]) | skip)
       have H' := Aside0.mk H
       clear H
       go_wp2
       repeat (go_quiet (fail); try go_wp2)
       go_meet
       case rel => exact ⟨_, (true), (by first | rfl | (simp; done) | (simp [*]; done)), H', ⟨by first | omega | exact Nat.le_refl _⟩, ⟨bl_ HB⟩⟩
      ·rw [if_neg c8] at H
       have c8b0 : decide ((a0.size : Int) < 6) = false := decide_eq_false c8
       have c8b1 : decide (a0.size < 6) = false := decide_eq_false (by omega)
       clear c8
       (first | rw [c8b0] | (simp only [i64_w, i32_w]; rw [c8b0]) | skip)
       have H' := Aside0.mk H
       clear H
       go_wp2
       repeat (go_quiet (fail); try go_wp2)
       go_meet
       case rel => exact ⟨_, (decide (t173 > (IntKind.u64.wrap (wrap64 ((a0.size : Int) - 6))))), (by first | rfl | (simp; done) | (simp [*]; done)), H', ⟨by first | omega | exact Nat.le_refl _⟩, ⟨bl_ HB⟩⟩
     case rest =>
      clear HC7
      try clear c2
      try clear c2b0
      try clear c2b1
      try clear p2
      try clear c3
      try clear c3b0
      try clear c3b1
      try clear c4
      try clear c4b0
      try clear c4b1
      try clear c6
      try clear c6b0
      try clear p6
      try clear c8
      try clear c8b0
      try clear c8b1
      obtain ⟨kq, x18_6, rfl, HA, HJ6, HB⟩ := hcut
      cases kq with
      | zero => exact absurd HA.out (by simp [pack_TakeFrame.j0])
      | succ kj6 =>
       have H := HA.out
       clear HA
       simp only [pack_TakeFrame.j0] at H
       by_cases c9 : x18_6 = true
       ·subst c9
        have H1 : (some ((⟨#[]⟩ : ByteArray), (⟨#[]⟩ : ByteArray), 3)) = some (r1, r2, r3) := by rw [if_pos rfl] at H; exact H
        clear H
        have H := H1
        clear H1
        simp only [Option.some.injEq, Prod.mk.injEq] at H
        obtain ⟨rfl, rfl, rfl⟩ := H
        go_wp2
        repeat (go_quiet (fail); try go_wp2)
        go_ret3
        exact ⟨by first | rfl | (simp; done) | (simp [*]; done), bl_ HB⟩
       ·replace c9 := Bool.eq_false_iff.mpr c9
        subst c9
        have H1 : (if 6 ≤ (wrap64 (6 + (wrap64 (t173)))) then (if (wrap64 (6 + (wrap64 (t173)))) ≤ (a0.size : Int) then ((pack_Frame.f kj6 (a0.extract 6 ((wrap64 (6 + (wrap64 (t173)))) : Int).toNat)).bind fun bt174 => (if 0 ≤ (wrap64 (6 + (wrap64 (t173)))) then (if bt174.1.toList = (a0.extract 0 ((wrap64 (6 + (wrap64 (t173)))) : Int).toNat).toList then (some (a0.extract 6 ((wrap64 (6 + (wrap64 (t173)))) : Int).toNat, a0.extract ((wrap64 (6 + (wrap64 (t173)))) : Int).toNat a0.size, 0)) else (some ((⟨#[]⟩ : ByteArray), (⟨#[]⟩ : ByteArray), 4))) else (none))) else (none)) else (none)) = some (r1, r2, r3) := by rw [if_neg (show ¬ (false = true) by decide)] at H; exact H
        clear H
        have H := H1
        clear H1
        by_cases c10 : 6 ≤ (wrap64 (6 + (wrap64 (t173))))
        ·rw [if_pos c10] at H
         have c10b0 := eq_true c10
         have c10b1 : decide (6 ≤ (wrap64 (6 + (wrap64 (t173))))) = true := decide_eq_true c10
         clear c10
         by_cases c11 : (wrap64 (6 + (wrap64 (t173)))) ≤ (a0.size : Int)
         ·rw [if_pos c11] at H
          have c11b0 := eq_true c11
          have c11b1 : decide ((wrap64 (6 + (wrap64 (t173)))) ≤ (a0.size : Int)) = true := decide_eq_true c11
          clear c11
          replace H := Option.bind_eq_some_iff.mp H
          obtain ⟨⟨t174, t175⟩, A120, H⟩ := H
          replace H : (if 0 ≤ (wrap64 (6 + (wrap64 (t173)))) then (if t174.toList = (a0.extract 0 ((wrap64 (6 + (wrap64 (t173)))) : Int).toNat).toList then (some (a0.extract 6 ((wrap64 (6 + (wrap64 (t173)))) : Int).toNat, a0.extract ((wrap64 (6 + (wrap64 (t173)))) : Int).toNat a0.size, 0)) else (some ((⟨#[]⟩ : ByteArray), (⟨#[]⟩ : ByteArray), 4))) else (none)) = some (r1, r2, r3) := H
          have A12 := Aside0.mk A120
          clear A120
          obtain ⟨ji13, hji13⟩ : ∃ j_ : Int, (wrap64 (6 + (wrap64 (t173)))) = j_ := ⟨_, rfl⟩
          replace H : (if 0 ≤ (ji13) then (if t174.toList = (a0.extract 0 ((ji13) : Int).toNat).toList then (some (a0.extract 6 ((ji13) : Int).toNat, a0.extract ((ji13) : Int).toNat a0.size, 0)) else (some ((⟨#[]⟩ : ByteArray), (⟨#[]⟩ : ByteArray), 4))) else (none)) = some (r1, r2, r3) := by first | (rw [hji13] at H; exact H) | (simp only [hji13] at H ⊢; exact H)
          (try rw [hji13] at c10b0)
          (try rw [hji13] at c10b1)
          (try rw [hji13] at c11b0)
          (try rw [hji13] at c11b1)
          (try rw [hji13] at A12)
          have hji13w : (IntKind.i64.wrap (6 + (wrap64 (t173)))) = ji13 := (i64_w _).trans hji13
          by_cases c14 : 0 ≤ (ji13)
          ·rw [if_pos c14] at H
           have c14b0 := eq_true c14
           have c14b1 : decide (0 ≤ (ji13)) = true := decide_eq_true c14
           clear c14
           have c15b0 := eq_true (of_decide_eq_true (by first | (with_reducible assumption) | assumption) : (ji13) ≤ (a0.size : Int))
           by_cases c16 : t174.toList = (a0.extract 0 ((ji13) : Int).toNat).toList
           ·rw [if_pos c16] at H
            have c16b0 : (t174.toList == (a0.extract 0 ((ji13) : Int).toNat).toList) = true := beq_iff_eq.mpr c16
            have c16b1 : (t174.toList != (a0.extract 0 ((ji13) : Int).toNat).toList) = false := bne_eq_false_iff_eq.mpr c16
            clear c16
            have c17b0 := eq_true (of_decide_eq_true (by first | (with_reducible assumption) | assumption) : 6 ≤ (ji13))
            have c18b0 := eq_true (of_decide_eq_true (by first | (with_reducible assumption) | assumption) : (ji13) ≤ (a0.size : Int))
            have c19b0 := eq_true (of_decide_eq_true (by first | (with_reducible assumption) | assumption) : 0 ≤ (ji13))
            have c20b0 := eq_true (of_decide_eq_true (by first | (with_reducible assumption) | assumption) : (ji13) ≤ (a0.size : Int))
            simp only [Option.some.injEq, Prod.mk.injEq] at H
            obtain ⟨rfl, rfl, rfl⟩ := H
            go_wp2_with (first | (go_at_call 25; (with_reducible refine (pack_Frame.calls kj6 (a0.extract 6 ((ji13) : Int).toNat) t174 t175 _ A12.out).mono ?_); rintro e w21 ⟨rfl, hb⟩; replace HB := Aside0.mk (below_step (bl_ HB) hb); (try clear hb); (try clear hb2); (try clear hk); (try clear hi)))
            repeat (go_quiet (first | (go_at_call 25; (with_reducible refine (pack_Frame.calls kj6 (a0.extract 6 ((ji13) : Int).toNat) t174 t175 _ A12.out).mono ?_); rintro e w21 ⟨rfl, hb⟩; replace HB := Aside0.mk (below_step (bl_ HB) hb); (try clear hb); (try clear hb2); (try clear hk); (try clear hi))); try go_wp2_with (first | (go_at_call 25; (with_reducible refine (pack_Frame.calls kj6 (a0.extract 6 ((ji13) : Int).toNat) t174 t175 _ A12.out).mono ?_); rintro e w21 ⟨rfl, hb⟩; replace HB := Aside0.mk (below_step (bl_ HB) hb); (try clear hb); (try clear hb2); (try clear hk); (try clear hi))))
            go_ret3
            exact ⟨by first | rfl | (simp [errW_none, errW_some] <;> rfl) | (simp only [← hji13]; first | rfl | (simp [errW_none, errW_some] <;> rfl)) | (simp [*, errW_none, errW_some] <;> rfl), bl_ HB⟩
           ·rw [if_neg c16] at H
            have c16b0 : (t174.toList == (a0.extract 0 ((ji13) : Int).toNat).toList) = false := beq_eq_false_iff_ne.mpr c16
            have c16b1 : (t174.toList != (a0.extract 0 ((ji13) : Int).toNat).toList) = true := bne_iff_ne.mpr c16
            simp only [Option.some.injEq, Prod.mk.injEq] at H
            obtain ⟨rfl, rfl, rfl⟩ := H
            go_wp2_with (first | (go_at_call 25; (with_reducible refine (pack_Frame.calls kj6 (a0.extract 6 ((ji13) : Int).toNat) t174 t175 _ A12.out).mono ?_); rintro e w22 ⟨rfl, hb⟩; replace HB := Aside0.mk (below_step (bl_ HB) hb); (try clear hb); (try clear hb2); (try clear hk); (try clear hi)))
            repeat (go_quiet (first | (go_at_call 25; (with_reducible refine (pack_Frame.calls kj6 (a0.extract 6 ((ji13) : Int).toNat) t174 t175 _ A12.out).mono ?_); rintro e w22 ⟨rfl, hb⟩; replace HB := Aside0.mk (below_step (bl_ HB) hb); (try clear hb); (try clear hb2); (try clear hk); (try clear hi))); try go_wp2_with (first | (go_at_call 25; (with_reducible refine (pack_Frame.calls kj6 (a0.extract 6 ((ji13) : Int).toNat) t174 t175 _ A12.out).mono ?_); rintro e w22 ⟨rfl, hb⟩; replace HB := Aside0.mk (below_step (bl_ HB) hb); (try clear hb); (try clear hb2); (try clear hk); (try clear hi))))
            go_ret3
            exact ⟨by first | rfl | (simp [errW_none, errW_some] <;> rfl) | (simp only [← hji13]; first | rfl | (simp [errW_none, errW_some] <;> rfl)) | (simp [*, errW_none, errW_some] <;> rfl), bl_ HB⟩
          ·rw [if_neg c14] at H
           exact absurd H (by simp)
         ·rw [if_neg c11] at H
          exact absurd H (by simp)
        ·rw [if_neg c10] at H
         exact absurd H (by simp)
   ·rw [if_neg c4] at H
    exact absurd H (by simp)
  ·rw [if_neg c3] at H
   exact absurd H (by simp)

/-! ### gafferref01_TakeFrame: function 28 -/
def gafferref01_TakeFrame.l0 : Nat → ByteArray → Int → Int → Option (ByteArray × ByteArray × Int)
 | 0, _, _, _ => none
 | k + 1, x0, x5, x6 => if x6 < 4 then (if 0 ≤ x6 then (if x6 < (x0.size : Int) then (gafferref01_TakeFrame.l0 k x0 (IntKind.u64.wrap ((IntKind.u64.wrap (256 * x5)) + (IntKind.u64.wrap (bt x0 x6)))) (wrap64 (x6 + 1))) else (none)) else (none)) else (if x5 > 65536 then (some ((⟨#[]⟩ : ByteArray), (⟨#[]⟩ : ByteArray), 2)) else (if (IntKind.u64.wrap ((x0.size : Int))) < (IntKind.u64.wrap (x5 + 6)) then (some ((⟨#[]⟩ : ByteArray), (⟨#[]⟩ : ByteArray), 3)) else (if 6 ≤ (IntKind.u64.wrap (x5 + 6)) then (if (IntKind.u64.wrap (x5 + 6)) ≤ (x0.size : Int) then (if 0 ≤ 4 then (if 4 ≤ (x0.size : Int) then (if (x0.extract 0 4).size + (x0.extract 6 ((IntKind.u64.wrap (x5 + 6)) : Int).toNat).size ≤ 9223372036854775807 then ((gafferref01_check.f k ((x0.extract 0 4) ++ (x0.extract 6 ((IntKind.u64.wrap (x5 + 6)) : Int).toNat))).bind fun t176 => (if 4 ≤ 6 then (if 6 ≤ (x0.size : Int) then (if t176.toList = (x0.extract 4 6).toList then (if 0 ≤ (IntKind.u64.wrap (x5 + 6)) then (some (x0.extract 6 ((IntKind.u64.wrap (x5 + 6)) : Int).toNat, x0.extract ((IntKind.u64.wrap (x5 + 6)) : Int).toNat x0.size, 0)) else (none)) else (some ((⟨#[]⟩ : ByteArray), (⟨#[]⟩ : ByteArray), 4))) else (none)) else (none))) else (none)) else (none)) else (none)) else (none)) else (none))))
def gafferref01_TakeFrame.f (k : Nat) (a0 : ByteArray) : Option (ByteArray × ByteArray × Int) := if (a0.size : Int) < 4 then (some ((⟨#[]⟩ : ByteArray), (⟨#[]⟩ : ByteArray), 3)) else (gafferref01_TakeFrame.l0 k a0 0 0)
theorem gafferref01_TakeFrame.mono_l : ∀ k, (∀ y0 y1 y2, LeO (gafferref01_TakeFrame.l0 k y0 y1 y2) (gafferref01_TakeFrame.l0 (k + 1) y0 y1 y2))
 | 0 => fun _ _ _ r h => by simp [gafferref01_TakeFrame.l0] at h
 | k + 1 => by
  have ih0 := gafferref01_TakeFrame.mono_l k
  ·intro y0 y1 y2
   unfold gafferref01_TakeFrame.l0
   repeat' first
   | (with_reducible exact ih0 _ _ _)
   | (with_reducible exact gafferref01_check.mono _ _)
   | (with_reducible exact LeO.refl _)
   | (with_reducible exact LeO.none _)
   | (with_reducible refine LeO.ite ?_ ?_)
   | (with_reducible refine LeO.bind ?_ (fun _ => ?_))
   | exact ih0 _ _ _
   | exact gafferref01_check.mono _ _
   | exact LeO.none _
   | refine LeO.ite ?_ ?_
   | refine LeO.bind ?_ (fun _ => ?_)
theorem gafferref01_TakeFrame.mono : ∀ a0 k, LeO (gafferref01_TakeFrame.f k a0) (gafferref01_TakeFrame.f (k + 1) a0) := by
 intro a0 k
 have ih0 := gafferref01_TakeFrame.mono_l k
 unfold gafferref01_TakeFrame.f
 repeat' first
   | (with_reducible exact ih0 _ _ _)
   | (with_reducible exact gafferref01_check.mono _ _)
   | (with_reducible exact LeO.refl _)
   | (with_reducible exact LeO.none _)
   | (with_reducible refine LeO.ite ?_ ?_)
   | (with_reducible refine LeO.bind ?_ (fun _ => ?_))
   | exact ih0 _ _ _
   | exact gafferref01_check.mono _ _
   | exact LeO.none _
   | refine LeO.ite ?_ ?_
   | refine LeO.bind ?_ (fun _ => ?_)
def gafferref01_TakeFrame.T13 : Bool × List (List Nat × List Nat) := (true, [([], []), ([0], [0]), ([], []), ([1, 2], [1, 2]), ([3], [3]), ([], []), ([5], [5]), ([4, 6], [4, 6])])
def gafferref01_TakeFrame.B13 : List Nat := [0, 1, 0, 7, 15, 0, 32, 127]
theorem gafferref01_TakeFrame.tab13 : rtab .any (opsOf Try.f28 13) = gafferref01_TakeFrame.T13 := by kernel_rfl
theorem gafferref01_TakeFrame.bits13 : waitsOk gafferref01_TakeFrame.T13.2 gafferref01_TakeFrame.B13 = true := by kernel_rfl
def gafferref01_TakeFrame.T15 : Bool × List (List Nat × List Nat) := (true, [([], []), ([], []), ([], []), ([2], [2]), ([1, 3], [1, 3]), ([0, 0], [0]), ([4, 5, 0, 1, 2, 3, 4, 5], [4]), ([6, 0, 1, 2, 3, 4, 5, 6], [])])
def gafferref01_TakeFrame.B15 : List Nat := [0, 0, 0, 4, 14, 1, 63, 127]
theorem gafferref01_TakeFrame.tab15 : rtab .any (opsOf Try.f28 15) = gafferref01_TakeFrame.T15 := by kernel_rfl
theorem gafferref01_TakeFrame.bits15 : waitsOk gafferref01_TakeFrame.T15.2 gafferref01_TakeFrame.B15 = true := by kernel_rfl
set_option maxHeartbeats 80000000 in
set_option maxRecDepth 100000 in
theorem gafferref01_TakeFrame.calls (k : Nat) (a0 : ByteArray) (r1 : ByteArray) (r2 : ByteArray) (r3 : Int) (w : World) (h : gafferref01_TakeFrame.f k a0 = some (r1, r2, r3)) :
  Calls Try.prog 28 #[.string a0] w fun e w' => e = .returned (.tuple #[.string r1, .string r2, .int .i64 r3]) ∧ Below w.heap.size w w' := by
 have HB := Aside0.mk (Below.refl w.heap.size w)
 have H : (if (a0.size : Int) < 4 then (some ((⟨#[]⟩ : ByteArray), (⟨#[]⟩ : ByteArray), 3)) else (gafferref01_TakeFrame.l0 k a0 0 0)) = some (r1, r2, r3) := h
 clear h
 by_cases c2 : (a0.size : Int) < 4
 ·rw [if_pos c2] at H
  have c2b0 : decide ((a0.size : Int) < 4) = true := decide_eq_true c2
  have c2b1 : decide (a0.size < 4) = true := decide_eq_true (by omega)
  clear c2
  simp only [Option.some.injEq, Prod.mk.injEq] at H
  obtain ⟨rfl, rfl, rfl⟩ := H
  go_enter Try.func28, Try.ntmps28
  go_wp2
  go_ret3
  exact ⟨by first | rfl | (simp; done) | (simp [*]; done), bl_ HB⟩
 ·rw [if_neg c2] at H
  have c2b0 : decide ((a0.size : Int) < 4) = false := decide_eq_false c2
  have c2b1 : decide (a0.size < 4) = false := decide_eq_false (by omega)
  clear c2
  have H' := Aside0.mk H
  clear H
  go_enter Try.func28, Try.ntmps28
  go_wp2
  go_loopg [5, 6] k (fun kq v5 v6 w' => ∃ (x5_1 : Int) (x6_1 : Int), v5 = .int .u64 x5_1 ∧ v6 = .int .i64 x6_1 ∧ Aside0 (gafferref01_TakeFrame.l0 kq a0 x5_1 x6_1 = some (r1, r2, r3)) ∧ Aside0 (kq ≤ k) ∧ Aside0 (Below w.heap.size w w'))
  case atStart => exact ⟨(0), (0), (by first | rfl | (simp; done) | (simp [*]; done)), (by first | rfl | (simp; done) | (simp [*]; done)), H', ⟨Nat.le_refl _⟩, ⟨bl_ HB⟩⟩
  case round =>
   clear H'
   try clear c2
   try clear c2b0
   try clear c2b1
   try clear p2
   obtain ⟨x5_1, x6_1, rfl, rfl, HA, HK1, HB⟩ := hrel
   cases gk with
   | zero => exact absurd HA.out (by simp [gafferref01_TakeFrame.l0])
   | succ k1 =>
    have H := HA.out
    clear HA
    simp only [gafferref01_TakeFrame.l0] at H
    by_cases c3 : x6_1 < 4
    ·rw [if_pos c3] at H
     have c3b0 : decide (x6_1 < 4) = true := decide_eq_true c3
     clear c3
     by_cases c4 : 0 ≤ x6_1
     ·rw [if_pos c4] at H
      have c4b0 : decide (0 ≤ x6_1) = true := decide_eq_true c4
      clear c4
      by_cases c5 : x6_1 < (a0.size : Int)
      ·rw [if_pos c5] at H
       have c5b0 : decide (x6_1 < (a0.size : Int)) = true := decide_eq_true c5
       clear c5
       have H' := Aside0.mk H
       clear H
       have p6 : 0 ≤ (x6_1 : Int) := of_decide_eq_true (by first | (with_reducible assumption) | assumption)
       have q6 : x6_1 < (a0.size : Int) := of_decide_eq_true (by first | (with_reducible assumption) | assumption)
       have hx6 := bt_at a0 x6_1
       replace p6 := eq_true p6
       replace q6 := eq_true q6
       go_wp2
       go_roundg k1
       case measure => have := HK1.out; omega
       case rel => exact ⟨(IntKind.u64.wrap ((IntKind.u64.wrap (256 * x5_1)) + (IntKind.u64.wrap (bt a0 x6_1)))), (wrap64 (x6_1 + 1)), (by first | rfl | (simp; done) | (simp [*]; done)), (by first | rfl | (simp; done) | (simp [*]; done)), H', ⟨by have := HK1.out; omega⟩, ⟨bl_ HB⟩⟩
      ·rw [if_neg c5] at H
       exact absurd H (by simp)
     ·rw [if_neg c4] at H
      exact absurd H (by simp)
    ·rw [if_neg c3] at H
     have c3b0 : decide (x6_1 < 4) = false := decide_eq_false c3
     clear c3
     by_cases c7 : x5_1 > 65536
     ·rw [if_pos c7] at H
      have c7b0 : decide (65536 < x5_1) = true := decide_eq_true c7
      clear c7
      simp only [Option.some.injEq, Prod.mk.injEq] at H
      obtain ⟨rfl, rfl, rfl⟩ := H
      go_wp2
      go_ret3
      exact ⟨by first | rfl | (simp; done) | (simp [*]; done), bl_ HB⟩
     ·rw [if_neg c7] at H
      have c7b0 : decide (65536 < x5_1) = false := decide_eq_false c7
      clear c7
      by_cases c8 : (IntKind.u64.wrap ((a0.size : Int))) < (IntKind.u64.wrap (x5_1 + 6))
      ·rw [if_pos c8] at H
       have c8b0 : decide ((IntKind.u64.wrap ((a0.size : Int))) < (IntKind.u64.wrap (x5_1 + 6))) = true := decide_eq_true c8
       clear c8
       simp only [Option.some.injEq, Prod.mk.injEq] at H
       obtain ⟨rfl, rfl, rfl⟩ := H
       go_wp2
       go_ret3
       exact ⟨by first | rfl | (simp; done) | (simp [*]; done), bl_ HB⟩
      ·rw [if_neg c8] at H
       have c8b0 : decide ((IntKind.u64.wrap ((a0.size : Int))) < (IntKind.u64.wrap (x5_1 + 6))) = false := decide_eq_false c8
       clear c8
       by_cases c9 : 6 ≤ (IntKind.u64.wrap (x5_1 + 6))
       ·rw [if_pos c9] at H
        have c9b0 := eq_true c9
        have c9b1 : decide (6 ≤ (IntKind.u64.wrap (x5_1 + 6))) = true := decide_eq_true c9
        clear c9
        by_cases c10 : (IntKind.u64.wrap (x5_1 + 6)) ≤ (a0.size : Int)
        ·rw [if_pos c10] at H
         have c10b0 := eq_true c10
         have c10b1 : decide ((IntKind.u64.wrap (x5_1 + 6)) ≤ (a0.size : Int)) = true := decide_eq_true c10
         clear c10
         by_cases c11 : 0 ≤ 4
         ·rw [if_pos c11] at H
          have c11b0 := eq_true c11
          have c11b1 : decide (0 ≤ 4) = true := decide_eq_true c11
          clear c11
          by_cases c12 : 4 ≤ (a0.size : Int)
          ·rw [if_pos c12] at H
           have c12b0 := eq_true c12
           have c12b1 : decide (4 ≤ (a0.size : Int)) = true := decide_eq_true c12
           clear c12
           by_cases c13 : (a0.extract 0 4).size + (a0.extract 6 ((IntKind.u64.wrap (x5_1 + 6)) : Int).toNat).size ≤ 9223372036854775807
           ·rw [if_pos c13] at H
            have c13b0 := eq_true c13
            have c13b1 : decide ((a0.extract 0 4).size + (a0.extract 6 ((IntKind.u64.wrap (x5_1 + 6)) : Int).toNat).size ≤ 9223372036854775807) = true := decide_eq_true c13
            try have c13b2 : (9223372036854775807 < (a0.extract 0 4).size + (a0.extract 6 ((IntKind.u64.wrap (x5_1 + 6)) : Int).toNat).size) = False := eq_false (Nat.not_lt.2 c13)
            clear c13
            replace H := Option.bind_eq_some_iff.mp H
            obtain ⟨t176, A140, H⟩ := H
            replace H : (if 4 ≤ 6 then (if 6 ≤ (a0.size : Int) then (if t176.toList = (a0.extract 4 6).toList then (if 0 ≤ (IntKind.u64.wrap (x5_1 + 6)) then (some (a0.extract 6 ((IntKind.u64.wrap (x5_1 + 6)) : Int).toNat, a0.extract ((IntKind.u64.wrap (x5_1 + 6)) : Int).toNat a0.size, 0)) else (none)) else (some ((⟨#[]⟩ : ByteArray), (⟨#[]⟩ : ByteArray), 4))) else (none)) else (none)) = some (r1, r2, r3) := H
            have A14 := Aside0.mk A140
            clear A140
            by_cases c15 : 4 ≤ 6
            ·rw [if_pos c15] at H
             have c15b0 := eq_true c15
             have c15b1 : decide (4 ≤ 6) = true := decide_eq_true c15
             clear c15
             by_cases c16 : 6 ≤ (a0.size : Int)
             ·rw [if_pos c16] at H
              have c16b0 := eq_true c16
              have c16b1 : decide (6 ≤ (a0.size : Int)) = true := decide_eq_true c16
              clear c16
              by_cases c17 : t176.toList = (a0.extract 4 6).toList
              ·rw [if_pos c17] at H
               have c17b0 : (t176.toList == (a0.extract 4 6).toList) = true := beq_iff_eq.mpr c17
               have c17b1 : (t176.toList != (a0.extract 4 6).toList) = false := bne_eq_false_iff_eq.mpr c17
               clear c17
               obtain ⟨ji18, hji18⟩ : ∃ j_ : Int, (IntKind.u64.wrap (x5_1 + 6)) = j_ := ⟨_, rfl⟩
               replace H : (if 0 ≤ (ji18) then (some (a0.extract 6 ((ji18) : Int).toNat, a0.extract ((ji18) : Int).toNat a0.size, 0)) else (none)) = some (r1, r2, r3) := by first | (rw [hji18] at H; exact H) | (simp only [hji18] at H ⊢; exact H)
               (try rw [hji18] at c8b0)
               (try rw [hji18] at c9b0)
               (try rw [hji18] at c9b1)
               (try rw [hji18] at c10b0)
               (try rw [hji18] at c10b1)
               (try rw [hji18] at c13b0)
               (try rw [hji18] at c13b1)
               (try rw [hji18] at A14)
               by_cases c19 : 0 ≤ (ji18)
               ·rw [if_pos c19] at H
                have c19b0 := eq_true c19
                have c19b1 : decide (0 ≤ (ji18)) = true := decide_eq_true c19
                clear c19
                have c20b0 := eq_true (of_decide_eq_true (by first | (with_reducible assumption) | assumption) : (ji18) ≤ (a0.size : Int))
                simp only [Option.some.injEq, Prod.mk.injEq] at H
                obtain ⟨rfl, rfl, rfl⟩ := H
                try go_wp2
                have n0_ := Aside0.mk (below_drew1 HB.out)
                clear HB
                have HB := n0_
                clear n0_
                refine start_ (n := 8) (S := fun w' => True) (ds := []) #[false, false, false, false, false, false, false, false] (by kernel_rfl) rfl rfl trivial (fun hHeld => ?_); refine with_tabW gafferref01_TakeFrame.tab13 gafferref01_TakeFrame.bits13 (fun HT_ HW_ => ?_)
                generalize wr.drew = w21 at HB hHeld ⊢
                refine pure_ (i := 0) (N := some 34) (v := ?_) (a' := ?_) #[true, false, false, false, false, false, false, false] rfl rfl (any_of HT_.out (by kernel_rfl)) (fun _ _ _ h => h) (Or.inl ⟨by rfl, ?_⟩) ?_ ?_
                rotate_left
                ·intro w'
                 go_simp
                 first | (with_reducible rfl) | (rw [if_neg (by (try have o0_ := of_decide_eq_true c2b0); (try have o1_ := of_decide_eq_true c2b1); (try have o2_ := of_decide_eq_false c2b0); (try have o3_ := of_decide_eq_false c2b1); (try have o4_ := of_decide_eq_true c3b0); (try have o5_ := of_decide_eq_false c3b0); (try have o6_ := of_decide_eq_true c7b0); (try have o7_ := of_decide_eq_false c7b0); (try have o8_ := of_decide_eq_true c8b0); (try have o9_ := of_decide_eq_false c8b0); (try have o10_ := of_decide_eq_true c9b1); (try have o11_ := of_decide_eq_true c10b1); (try have o12_ := of_decide_eq_true c11b1); (try have o13_ := of_decide_eq_true c12b1); (try have o14_ := of_decide_eq_true c13b1); (try have o15_ := of_decide_eq_true c15b1); (try have o16_ := of_decide_eq_true c16b1); (try have o17_ := of_decide_eq_true c19b1); (try simp only [ByteArray.size_extract, ByteArray.size_append] at o0_); (try simp only [ByteArray.size_extract, ByteArray.size_append] at o1_); (try simp only [ByteArray.size_extract, ByteArray.size_append] at o2_); (try simp only [ByteArray.size_extract, ByteArray.size_append] at o3_); (try simp only [ByteArray.size_extract, ByteArray.size_append] at o4_); (try simp only [ByteArray.size_extract, ByteArray.size_append] at o5_); (try simp only [ByteArray.size_extract, ByteArray.size_append] at o6_); (try simp only [ByteArray.size_extract, ByteArray.size_append] at o7_); (try simp only [ByteArray.size_extract, ByteArray.size_append] at o8_); (try simp only [ByteArray.size_extract, ByteArray.size_append] at o9_); (try simp only [ByteArray.size_extract, ByteArray.size_append] at o10_); (try simp only [ByteArray.size_extract, ByteArray.size_append] at o11_); (try simp only [ByteArray.size_extract, ByteArray.size_append] at o12_); (try simp only [ByteArray.size_extract, ByteArray.size_append] at o13_); (try simp only [ByteArray.size_extract, ByteArray.size_append] at o14_); (try simp only [ByteArray.size_extract, ByteArray.size_append] at o15_); (try simp only [ByteArray.size_extract, ByteArray.size_append] at o16_); (try simp only [ByteArray.size_extract, ByteArray.size_append] at o17_); omega)]; try with_reducible rfl)
                rotate_left
                ·simp only [Act.put, List.setIfInBounds_toArray, List.set_cons_zero, List.set_cons_succ, i64_w, i32_w]
                 rfl
                refine pure_ (i := 1) (N := some 35) (v := ?_) (a' := ?_) #[true, true, false, false, false, false, false, false] rfl rfl (any_of HT_.out (by kernel_rfl)) (fun _ _ _ h => h) (Or.inl ⟨by rfl, ?_⟩) ?_ ?_
                rotate_left
                ·intro w'
                 go_simp
                 first | (with_reducible rfl) | (rw [if_neg (by (try have o0_ := of_decide_eq_true c2b0); (try have o1_ := of_decide_eq_true c2b1); (try have o2_ := of_decide_eq_false c2b0); (try have o3_ := of_decide_eq_false c2b1); (try have o4_ := of_decide_eq_true c3b0); (try have o5_ := of_decide_eq_false c3b0); (try have o6_ := of_decide_eq_true c7b0); (try have o7_ := of_decide_eq_false c7b0); (try have o8_ := of_decide_eq_true c8b0); (try have o9_ := of_decide_eq_false c8b0); (try have o10_ := of_decide_eq_true c9b1); (try have o11_ := of_decide_eq_true c10b1); (try have o12_ := of_decide_eq_true c11b1); (try have o13_ := of_decide_eq_true c12b1); (try have o14_ := of_decide_eq_true c13b1); (try have o15_ := of_decide_eq_true c15b1); (try have o16_ := of_decide_eq_true c16b1); (try have o17_ := of_decide_eq_true c19b1); (try simp only [ByteArray.size_extract, ByteArray.size_append] at o0_); (try simp only [ByteArray.size_extract, ByteArray.size_append] at o1_); (try simp only [ByteArray.size_extract, ByteArray.size_append] at o2_); (try simp only [ByteArray.size_extract, ByteArray.size_append] at o3_); (try simp only [ByteArray.size_extract, ByteArray.size_append] at o4_); (try simp only [ByteArray.size_extract, ByteArray.size_append] at o5_); (try simp only [ByteArray.size_extract, ByteArray.size_append] at o6_); (try simp only [ByteArray.size_extract, ByteArray.size_append] at o7_); (try simp only [ByteArray.size_extract, ByteArray.size_append] at o8_); (try simp only [ByteArray.size_extract, ByteArray.size_append] at o9_); (try simp only [ByteArray.size_extract, ByteArray.size_append] at o10_); (try simp only [ByteArray.size_extract, ByteArray.size_append] at o11_); (try simp only [ByteArray.size_extract, ByteArray.size_append] at o12_); (try simp only [ByteArray.size_extract, ByteArray.size_append] at o13_); (try simp only [ByteArray.size_extract, ByteArray.size_append] at o14_); (try simp only [ByteArray.size_extract, ByteArray.size_append] at o15_); (try simp only [ByteArray.size_extract, ByteArray.size_append] at o16_); (try simp only [ByteArray.size_extract, ByteArray.size_append] at o17_); omega)]; try with_reducible rfl)
                rotate_left
                ·simp only [Act.put, List.setIfInBounds_toArray, List.set_cons_zero, List.set_cons_succ, i64_w, i32_w]
                 rfl
                refine pure_ (i := 2) (N := some 36) (v := ?_) (a' := ?_) #[true, true, true, false, false, false, false, false] rfl rfl (any_of HT_.out (by kernel_rfl)) (fun _ _ _ h => h) (Or.inl ⟨by rfl, ?_⟩) ?_ ?_
                rotate_left
                ·intro w'
                 go_simp
                 first | (with_reducible rfl) | (rw [if_neg (by (try have o0_ := of_decide_eq_true c2b0); (try have o1_ := of_decide_eq_true c2b1); (try have o2_ := of_decide_eq_false c2b0); (try have o3_ := of_decide_eq_false c2b1); (try have o4_ := of_decide_eq_true c3b0); (try have o5_ := of_decide_eq_false c3b0); (try have o6_ := of_decide_eq_true c7b0); (try have o7_ := of_decide_eq_false c7b0); (try have o8_ := of_decide_eq_true c8b0); (try have o9_ := of_decide_eq_false c8b0); (try have o10_ := of_decide_eq_true c9b1); (try have o11_ := of_decide_eq_true c10b1); (try have o12_ := of_decide_eq_true c11b1); (try have o13_ := of_decide_eq_true c12b1); (try have o14_ := of_decide_eq_true c13b1); (try have o15_ := of_decide_eq_true c15b1); (try have o16_ := of_decide_eq_true c16b1); (try have o17_ := of_decide_eq_true c19b1); (try simp only [ByteArray.size_extract, ByteArray.size_append] at o0_); (try simp only [ByteArray.size_extract, ByteArray.size_append] at o1_); (try simp only [ByteArray.size_extract, ByteArray.size_append] at o2_); (try simp only [ByteArray.size_extract, ByteArray.size_append] at o3_); (try simp only [ByteArray.size_extract, ByteArray.size_append] at o4_); (try simp only [ByteArray.size_extract, ByteArray.size_append] at o5_); (try simp only [ByteArray.size_extract, ByteArray.size_append] at o6_); (try simp only [ByteArray.size_extract, ByteArray.size_append] at o7_); (try simp only [ByteArray.size_extract, ByteArray.size_append] at o8_); (try simp only [ByteArray.size_extract, ByteArray.size_append] at o9_); (try simp only [ByteArray.size_extract, ByteArray.size_append] at o10_); (try simp only [ByteArray.size_extract, ByteArray.size_append] at o11_); (try simp only [ByteArray.size_extract, ByteArray.size_append] at o12_); (try simp only [ByteArray.size_extract, ByteArray.size_append] at o13_); (try simp only [ByteArray.size_extract, ByteArray.size_append] at o14_); (try simp only [ByteArray.size_extract, ByteArray.size_append] at o15_); (try simp only [ByteArray.size_extract, ByteArray.size_append] at o16_); (try simp only [ByteArray.size_extract, ByteArray.size_append] at o17_); omega)]; try with_reducible rfl)
                rotate_left
                ·simp only [Act.put, List.setIfInBounds_toArray, List.set_cons_zero, List.set_cons_succ, i64_w, i32_w]
                 rfl
                refine pure_ (i := 3) (N := some 37) (v := ?_) (a' := ?_) #[true, true, true, true, false, false, false, false] rfl rfl (any_of HT_.out (by kernel_rfl)) (fun _ _ _ h => h) (Or.inl ⟨by rfl, ?_⟩) ?_ ?_
                rotate_left
                ·intro w'
                 go_simp
                 first | (with_reducible rfl) | (rw [if_neg (by (try have o0_ := of_decide_eq_true c2b0); (try have o1_ := of_decide_eq_true c2b1); (try have o2_ := of_decide_eq_false c2b0); (try have o3_ := of_decide_eq_false c2b1); (try have o4_ := of_decide_eq_true c3b0); (try have o5_ := of_decide_eq_false c3b0); (try have o6_ := of_decide_eq_true c7b0); (try have o7_ := of_decide_eq_false c7b0); (try have o8_ := of_decide_eq_true c8b0); (try have o9_ := of_decide_eq_false c8b0); (try have o10_ := of_decide_eq_true c9b1); (try have o11_ := of_decide_eq_true c10b1); (try have o12_ := of_decide_eq_true c11b1); (try have o13_ := of_decide_eq_true c12b1); (try have o14_ := of_decide_eq_true c13b1); (try have o15_ := of_decide_eq_true c15b1); (try have o16_ := of_decide_eq_true c16b1); (try have o17_ := of_decide_eq_true c19b1); (try simp only [ByteArray.size_extract, ByteArray.size_append] at o0_); (try simp only [ByteArray.size_extract, ByteArray.size_append] at o1_); (try simp only [ByteArray.size_extract, ByteArray.size_append] at o2_); (try simp only [ByteArray.size_extract, ByteArray.size_append] at o3_); (try simp only [ByteArray.size_extract, ByteArray.size_append] at o4_); (try simp only [ByteArray.size_extract, ByteArray.size_append] at o5_); (try simp only [ByteArray.size_extract, ByteArray.size_append] at o6_); (try simp only [ByteArray.size_extract, ByteArray.size_append] at o7_); (try simp only [ByteArray.size_extract, ByteArray.size_append] at o8_); (try simp only [ByteArray.size_extract, ByteArray.size_append] at o9_); (try simp only [ByteArray.size_extract, ByteArray.size_append] at o10_); (try simp only [ByteArray.size_extract, ByteArray.size_append] at o11_); (try simp only [ByteArray.size_extract, ByteArray.size_append] at o12_); (try simp only [ByteArray.size_extract, ByteArray.size_append] at o13_); (try simp only [ByteArray.size_extract, ByteArray.size_append] at o14_); (try simp only [ByteArray.size_extract, ByteArray.size_append] at o15_); (try simp only [ByteArray.size_extract, ByteArray.size_append] at o16_); (try simp only [ByteArray.size_extract, ByteArray.size_append] at o17_); omega)]; try with_reducible rfl)
                rotate_left
                ·simp only [Act.put, List.setIfInBounds_toArray, List.set_cons_zero, List.set_cons_succ, i64_w, i32_w]
                 rfl
                refine pure_ (i := 5) (N := some 39) (v := ?_) (a' := ?_) #[true, true, true, true, false, true, false, false] rfl rfl (any_of HT_.out (by kernel_rfl)) (fun _ _ _ h => h) (Or.inl ⟨by rfl, ?_⟩) ?_ ?_
                rotate_left
                ·intro w'
                 go_simp
                 first | (with_reducible rfl) | (rw [if_neg (by (try have o0_ := of_decide_eq_true c2b0); (try have o1_ := of_decide_eq_true c2b1); (try have o2_ := of_decide_eq_false c2b0); (try have o3_ := of_decide_eq_false c2b1); (try have o4_ := of_decide_eq_true c3b0); (try have o5_ := of_decide_eq_false c3b0); (try have o6_ := of_decide_eq_true c7b0); (try have o7_ := of_decide_eq_false c7b0); (try have o8_ := of_decide_eq_true c8b0); (try have o9_ := of_decide_eq_false c8b0); (try have o10_ := of_decide_eq_true c9b1); (try have o11_ := of_decide_eq_true c10b1); (try have o12_ := of_decide_eq_true c11b1); (try have o13_ := of_decide_eq_true c12b1); (try have o14_ := of_decide_eq_true c13b1); (try have o15_ := of_decide_eq_true c15b1); (try have o16_ := of_decide_eq_true c16b1); (try have o17_ := of_decide_eq_true c19b1); (try simp only [ByteArray.size_extract, ByteArray.size_append] at o0_); (try simp only [ByteArray.size_extract, ByteArray.size_append] at o1_); (try simp only [ByteArray.size_extract, ByteArray.size_append] at o2_); (try simp only [ByteArray.size_extract, ByteArray.size_append] at o3_); (try simp only [ByteArray.size_extract, ByteArray.size_append] at o4_); (try simp only [ByteArray.size_extract, ByteArray.size_append] at o5_); (try simp only [ByteArray.size_extract, ByteArray.size_append] at o6_); (try simp only [ByteArray.size_extract, ByteArray.size_append] at o7_); (try simp only [ByteArray.size_extract, ByteArray.size_append] at o8_); (try simp only [ByteArray.size_extract, ByteArray.size_append] at o9_); (try simp only [ByteArray.size_extract, ByteArray.size_append] at o10_); (try simp only [ByteArray.size_extract, ByteArray.size_append] at o11_); (try simp only [ByteArray.size_extract, ByteArray.size_append] at o12_); (try simp only [ByteArray.size_extract, ByteArray.size_append] at o13_); (try simp only [ByteArray.size_extract, ByteArray.size_append] at o14_); (try simp only [ByteArray.size_extract, ByteArray.size_append] at o15_); (try simp only [ByteArray.size_extract, ByteArray.size_append] at o16_); (try simp only [ByteArray.size_extract, ByteArray.size_append] at o17_); omega)]; try with_reducible rfl)
                rotate_left
                ·simp only [Act.put, List.setIfInBounds_toArray, List.set_cons_zero, List.set_cons_succ, i64_w, i32_w]
                 rfl
                refine pure_ (i := 6) (N := some 40) (v := ?_) (a' := ?_) #[true, true, true, true, false, true, true, false] rfl rfl (any_of HT_.out (by kernel_rfl)) (fun _ _ _ h => h) (Or.inl ⟨by rfl, ?_⟩) ?_ ?_
                rotate_left
                ·intro w'
                 go_simp
                 first | (with_reducible rfl) | (rw [if_neg (by (try have o0_ := of_decide_eq_true c2b0); (try have o1_ := of_decide_eq_true c2b1); (try have o2_ := of_decide_eq_false c2b0); (try have o3_ := of_decide_eq_false c2b1); (try have o4_ := of_decide_eq_true c3b0); (try have o5_ := of_decide_eq_false c3b0); (try have o6_ := of_decide_eq_true c7b0); (try have o7_ := of_decide_eq_false c7b0); (try have o8_ := of_decide_eq_true c8b0); (try have o9_ := of_decide_eq_false c8b0); (try have o10_ := of_decide_eq_true c9b1); (try have o11_ := of_decide_eq_true c10b1); (try have o12_ := of_decide_eq_true c11b1); (try have o13_ := of_decide_eq_true c12b1); (try have o14_ := of_decide_eq_true c13b1); (try have o15_ := of_decide_eq_true c15b1); (try have o16_ := of_decide_eq_true c16b1); (try have o17_ := of_decide_eq_true c19b1); (try simp only [ByteArray.size_extract, ByteArray.size_append] at o0_); (try simp only [ByteArray.size_extract, ByteArray.size_append] at o1_); (try simp only [ByteArray.size_extract, ByteArray.size_append] at o2_); (try simp only [ByteArray.size_extract, ByteArray.size_append] at o3_); (try simp only [ByteArray.size_extract, ByteArray.size_append] at o4_); (try simp only [ByteArray.size_extract, ByteArray.size_append] at o5_); (try simp only [ByteArray.size_extract, ByteArray.size_append] at o6_); (try simp only [ByteArray.size_extract, ByteArray.size_append] at o7_); (try simp only [ByteArray.size_extract, ByteArray.size_append] at o8_); (try simp only [ByteArray.size_extract, ByteArray.size_append] at o9_); (try simp only [ByteArray.size_extract, ByteArray.size_append] at o10_); (try simp only [ByteArray.size_extract, ByteArray.size_append] at o11_); (try simp only [ByteArray.size_extract, ByteArray.size_append] at o12_); (try simp only [ByteArray.size_extract, ByteArray.size_append] at o13_); (try simp only [ByteArray.size_extract, ByteArray.size_append] at o14_); (try simp only [ByteArray.size_extract, ByteArray.size_append] at o15_); (try simp only [ByteArray.size_extract, ByteArray.size_append] at o16_); (try simp only [ByteArray.size_extract, ByteArray.size_append] at o17_); omega)]; try with_reducible rfl)
                rotate_left
                ·simp only [Act.put, List.setIfInBounds_toArray, List.set_cons_zero, List.set_cons_succ, i64_w, i32_w]
                 rfl
                refine one_ (i := 4) (N := some 38) #[true, true, true, true, true, true, true, false] rfl rfl (one_of HT_.out (by kernel_rfl)) (by decide) (fun K hK => ?_)
                refine goes_ Try.func34 (by kernel_rfl) rfl #[.string ((a0.extract 0 4) ++ (a0.extract 6 ((ji18) : Int).toNat))] (by rfl) rfl rfl (by (try simp only [List.map_toArray, List.map_cons, List.map_nil]); first | done | (simp only [hji18]; rfl) | rfl | (simp only [List.length_drop, List.length_take]; rfl)) ?_
                with_reducible refine (gafferref01_check.calls k1 ((a0.extract 0 4) ++ (a0.extract 6 ((ji18) : Int).toNat)) t176 _ A14.out).mono ?_
                rintro e w22 ⟨rfl, hb⟩
                refine ⟨_, rfl, ?_⟩
                have n0_ := Aside0.mk (below_step (bl_ HB) hb)
                clear HB
                have HB := n0_
                clear n0_
                (try clear hb)
                (try clear hb2)
                (try clear hk)
                (try clear hi)
                refine hK.out _ _ trivial (fun hHeld => ?_)
                clear hK K
                refine norm_ (a' := ?_) ?_ ?_
                rotate_left
                ·show Act.put _ (some 38) _ = _
                 simp only [Act.put, List.setIfInBounds_toArray, List.set_cons_zero, List.set_cons_succ, i64_w, i32_w]
                 rfl
                refine pure_ (i := 7) (N := some 41) (v := ?_) (a' := ?_) #[true, true, true, true, true, true, true, true] rfl rfl (any_of HT_.out (by kernel_rfl)) (fun _ _ _ h => h) (Or.inl ⟨by rfl, ?_⟩) ?_ ?_
                rotate_left
                ·intro w'
                 go_simp
                 first | (with_reducible rfl) | (rw [if_neg (by (try have o0_ := of_decide_eq_true c2b0); (try have o1_ := of_decide_eq_true c2b1); (try have o2_ := of_decide_eq_false c2b0); (try have o3_ := of_decide_eq_false c2b1); (try have o4_ := of_decide_eq_true c3b0); (try have o5_ := of_decide_eq_false c3b0); (try have o6_ := of_decide_eq_true c7b0); (try have o7_ := of_decide_eq_false c7b0); (try have o8_ := of_decide_eq_true c8b0); (try have o9_ := of_decide_eq_false c8b0); (try have o10_ := of_decide_eq_true c9b1); (try have o11_ := of_decide_eq_true c10b1); (try have o12_ := of_decide_eq_true c11b1); (try have o13_ := of_decide_eq_true c12b1); (try have o14_ := of_decide_eq_true c13b1); (try have o15_ := of_decide_eq_true c15b1); (try have o16_ := of_decide_eq_true c16b1); (try have o17_ := of_decide_eq_true c19b1); (try simp only [ByteArray.size_extract, ByteArray.size_append] at o0_); (try simp only [ByteArray.size_extract, ByteArray.size_append] at o1_); (try simp only [ByteArray.size_extract, ByteArray.size_append] at o2_); (try simp only [ByteArray.size_extract, ByteArray.size_append] at o3_); (try simp only [ByteArray.size_extract, ByteArray.size_append] at o4_); (try simp only [ByteArray.size_extract, ByteArray.size_append] at o5_); (try simp only [ByteArray.size_extract, ByteArray.size_append] at o6_); (try simp only [ByteArray.size_extract, ByteArray.size_append] at o7_); (try simp only [ByteArray.size_extract, ByteArray.size_append] at o8_); (try simp only [ByteArray.size_extract, ByteArray.size_append] at o9_); (try simp only [ByteArray.size_extract, ByteArray.size_append] at o10_); (try simp only [ByteArray.size_extract, ByteArray.size_append] at o11_); (try simp only [ByteArray.size_extract, ByteArray.size_append] at o12_); (try simp only [ByteArray.size_extract, ByteArray.size_append] at o13_); (try simp only [ByteArray.size_extract, ByteArray.size_append] at o14_); (try simp only [ByteArray.size_extract, ByteArray.size_append] at o15_); (try simp only [ByteArray.size_extract, ByteArray.size_append] at o16_); (try simp only [ByteArray.size_extract, ByteArray.size_append] at o17_); omega)]; try with_reducible rfl)
                rotate_left
                ·simp only [Act.put, List.setIfInBounds_toArray, List.set_cons_zero, List.set_cons_succ, i64_w, i32_w]
                 rfl
                refine done_ (done_of HT_.out (by kernel_rfl)) ?_
                try go_wp2
                have n0_ := Aside0.mk (below_drew1 HB.out)
                clear HB
                have HB := n0_
                clear n0_
                refine start_ (n := 8) (S := fun w' => True) (ds := []) #[false, false, false, false, false, false, false, false] (by kernel_rfl) rfl rfl trivial (fun hHeld => ?_); refine with_tabW gafferref01_TakeFrame.tab15 gafferref01_TakeFrame.bits15 (fun HT_ HW_ => ?_)
                generalize w22.drew = w23 at HB hHeld ⊢
                refine pure_ (i := 0) (N := some 42) (v := ?_) (a' := ?_) #[true, false, false, false, false, false, false, false] rfl rfl (any_of HT_.out (by kernel_rfl)) (fun _ _ _ h => h) (Or.inl ⟨by rfl, ?_⟩) ?_ ?_
                rotate_left
                ·intro w'
                 go_simp
                 first | (with_reducible rfl) | (rw [if_neg (by (try have o0_ := of_decide_eq_true c2b0); (try have o1_ := of_decide_eq_true c2b1); (try have o2_ := of_decide_eq_false c2b0); (try have o3_ := of_decide_eq_false c2b1); (try have o4_ := of_decide_eq_true c3b0); (try have o5_ := of_decide_eq_false c3b0); (try have o6_ := of_decide_eq_true c7b0); (try have o7_ := of_decide_eq_false c7b0); (try have o8_ := of_decide_eq_true c8b0); (try have o9_ := of_decide_eq_false c8b0); (try have o10_ := of_decide_eq_true c9b1); (try have o11_ := of_decide_eq_true c10b1); (try have o12_ := of_decide_eq_true c11b1); (try have o13_ := of_decide_eq_true c12b1); (try have o14_ := of_decide_eq_true c13b1); (try have o15_ := of_decide_eq_true c15b1); (try have o16_ := of_decide_eq_true c16b1); (try have o17_ := of_decide_eq_true c19b1); (try simp only [ByteArray.size_extract, ByteArray.size_append] at o0_); (try simp only [ByteArray.size_extract, ByteArray.size_append] at o1_); (try simp only [ByteArray.size_extract, ByteArray.size_append] at o2_); (try simp only [ByteArray.size_extract, ByteArray.size_append] at o3_); (try simp only [ByteArray.size_extract, ByteArray.size_append] at o4_); (try simp only [ByteArray.size_extract, ByteArray.size_append] at o5_); (try simp only [ByteArray.size_extract, ByteArray.size_append] at o6_); (try simp only [ByteArray.size_extract, ByteArray.size_append] at o7_); (try simp only [ByteArray.size_extract, ByteArray.size_append] at o8_); (try simp only [ByteArray.size_extract, ByteArray.size_append] at o9_); (try simp only [ByteArray.size_extract, ByteArray.size_append] at o10_); (try simp only [ByteArray.size_extract, ByteArray.size_append] at o11_); (try simp only [ByteArray.size_extract, ByteArray.size_append] at o12_); (try simp only [ByteArray.size_extract, ByteArray.size_append] at o13_); (try simp only [ByteArray.size_extract, ByteArray.size_append] at o14_); (try simp only [ByteArray.size_extract, ByteArray.size_append] at o15_); (try simp only [ByteArray.size_extract, ByteArray.size_append] at o16_); (try simp only [ByteArray.size_extract, ByteArray.size_append] at o17_); omega)]; try with_reducible rfl)
                rotate_left
                ·simp only [Act.put, List.setIfInBounds_toArray, List.set_cons_zero, List.set_cons_succ, i64_w, i32_w]
                 rfl
                refine pure_ (i := 1) (N := some 43) (v := ?_) (a' := ?_) #[true, true, false, false, false, false, false, false] rfl rfl (any_of HT_.out (by kernel_rfl)) (fun _ _ _ h => h) (Or.inl ⟨by rfl, ?_⟩) ?_ ?_
                rotate_left
                ·intro w'
                 go_simp
                 first | (with_reducible rfl) | (rw [if_neg (by (try have o0_ := of_decide_eq_true c2b0); (try have o1_ := of_decide_eq_true c2b1); (try have o2_ := of_decide_eq_false c2b0); (try have o3_ := of_decide_eq_false c2b1); (try have o4_ := of_decide_eq_true c3b0); (try have o5_ := of_decide_eq_false c3b0); (try have o6_ := of_decide_eq_true c7b0); (try have o7_ := of_decide_eq_false c7b0); (try have o8_ := of_decide_eq_true c8b0); (try have o9_ := of_decide_eq_false c8b0); (try have o10_ := of_decide_eq_true c9b1); (try have o11_ := of_decide_eq_true c10b1); (try have o12_ := of_decide_eq_true c11b1); (try have o13_ := of_decide_eq_true c12b1); (try have o14_ := of_decide_eq_true c13b1); (try have o15_ := of_decide_eq_true c15b1); (try have o16_ := of_decide_eq_true c16b1); (try have o17_ := of_decide_eq_true c19b1); (try simp only [ByteArray.size_extract, ByteArray.size_append] at o0_); (try simp only [ByteArray.size_extract, ByteArray.size_append] at o1_); (try simp only [ByteArray.size_extract, ByteArray.size_append] at o2_); (try simp only [ByteArray.size_extract, ByteArray.size_append] at o3_); (try simp only [ByteArray.size_extract, ByteArray.size_append] at o4_); (try simp only [ByteArray.size_extract, ByteArray.size_append] at o5_); (try simp only [ByteArray.size_extract, ByteArray.size_append] at o6_); (try simp only [ByteArray.size_extract, ByteArray.size_append] at o7_); (try simp only [ByteArray.size_extract, ByteArray.size_append] at o8_); (try simp only [ByteArray.size_extract, ByteArray.size_append] at o9_); (try simp only [ByteArray.size_extract, ByteArray.size_append] at o10_); (try simp only [ByteArray.size_extract, ByteArray.size_append] at o11_); (try simp only [ByteArray.size_extract, ByteArray.size_append] at o12_); (try simp only [ByteArray.size_extract, ByteArray.size_append] at o13_); (try simp only [ByteArray.size_extract, ByteArray.size_append] at o14_); (try simp only [ByteArray.size_extract, ByteArray.size_append] at o15_); (try simp only [ByteArray.size_extract, ByteArray.size_append] at o16_); (try simp only [ByteArray.size_extract, ByteArray.size_append] at o17_); omega)]; try with_reducible rfl)
                rotate_left
                ·simp only [Act.put, List.setIfInBounds_toArray, List.set_cons_zero, List.set_cons_succ, i64_w, i32_w]
                 rfl
                refine pure_ (i := 2) (N := some 44) (v := ?_) (a' := ?_) #[true, true, true, false, false, false, false, false] rfl rfl (any_of HT_.out (by kernel_rfl)) (fun _ _ _ h => h) (Or.inl ⟨by rfl, ?_⟩) ?_ ?_
                rotate_left
                ·intro w'
                 go_simp
                 first | (with_reducible rfl) | (rw [if_neg (by (try have o0_ := of_decide_eq_true c2b0); (try have o1_ := of_decide_eq_true c2b1); (try have o2_ := of_decide_eq_false c2b0); (try have o3_ := of_decide_eq_false c2b1); (try have o4_ := of_decide_eq_true c3b0); (try have o5_ := of_decide_eq_false c3b0); (try have o6_ := of_decide_eq_true c7b0); (try have o7_ := of_decide_eq_false c7b0); (try have o8_ := of_decide_eq_true c8b0); (try have o9_ := of_decide_eq_false c8b0); (try have o10_ := of_decide_eq_true c9b1); (try have o11_ := of_decide_eq_true c10b1); (try have o12_ := of_decide_eq_true c11b1); (try have o13_ := of_decide_eq_true c12b1); (try have o14_ := of_decide_eq_true c13b1); (try have o15_ := of_decide_eq_true c15b1); (try have o16_ := of_decide_eq_true c16b1); (try have o17_ := of_decide_eq_true c19b1); (try simp only [ByteArray.size_extract, ByteArray.size_append] at o0_); (try simp only [ByteArray.size_extract, ByteArray.size_append] at o1_); (try simp only [ByteArray.size_extract, ByteArray.size_append] at o2_); (try simp only [ByteArray.size_extract, ByteArray.size_append] at o3_); (try simp only [ByteArray.size_extract, ByteArray.size_append] at o4_); (try simp only [ByteArray.size_extract, ByteArray.size_append] at o5_); (try simp only [ByteArray.size_extract, ByteArray.size_append] at o6_); (try simp only [ByteArray.size_extract, ByteArray.size_append] at o7_); (try simp only [ByteArray.size_extract, ByteArray.size_append] at o8_); (try simp only [ByteArray.size_extract, ByteArray.size_append] at o9_); (try simp only [ByteArray.size_extract, ByteArray.size_append] at o10_); (try simp only [ByteArray.size_extract, ByteArray.size_append] at o11_); (try simp only [ByteArray.size_extract, ByteArray.size_append] at o12_); (try simp only [ByteArray.size_extract, ByteArray.size_append] at o13_); (try simp only [ByteArray.size_extract, ByteArray.size_append] at o14_); (try simp only [ByteArray.size_extract, ByteArray.size_append] at o15_); (try simp only [ByteArray.size_extract, ByteArray.size_append] at o16_); (try simp only [ByteArray.size_extract, ByteArray.size_append] at o17_); omega)]; try with_reducible rfl)
                rotate_left
                ·simp only [Act.put, List.setIfInBounds_toArray, List.set_cons_zero, List.set_cons_succ, i64_w, i32_w]
                 rfl
                refine pure_ (i := 3) (N := some 45) (v := ?_) (a' := ?_) #[true, true, true, true, false, false, false, false] rfl rfl (any_of HT_.out (by kernel_rfl)) (fun _ _ _ h => h) (Or.inl ⟨by rfl, ?_⟩) ?_ ?_
                rotate_left
                ·intro w'
                 go_simp
                 first | (with_reducible rfl) | (rw [if_neg (by (try have o0_ := of_decide_eq_true c2b0); (try have o1_ := of_decide_eq_true c2b1); (try have o2_ := of_decide_eq_false c2b0); (try have o3_ := of_decide_eq_false c2b1); (try have o4_ := of_decide_eq_true c3b0); (try have o5_ := of_decide_eq_false c3b0); (try have o6_ := of_decide_eq_true c7b0); (try have o7_ := of_decide_eq_false c7b0); (try have o8_ := of_decide_eq_true c8b0); (try have o9_ := of_decide_eq_false c8b0); (try have o10_ := of_decide_eq_true c9b1); (try have o11_ := of_decide_eq_true c10b1); (try have o12_ := of_decide_eq_true c11b1); (try have o13_ := of_decide_eq_true c12b1); (try have o14_ := of_decide_eq_true c13b1); (try have o15_ := of_decide_eq_true c15b1); (try have o16_ := of_decide_eq_true c16b1); (try have o17_ := of_decide_eq_true c19b1); (try simp only [ByteArray.size_extract, ByteArray.size_append] at o0_); (try simp only [ByteArray.size_extract, ByteArray.size_append] at o1_); (try simp only [ByteArray.size_extract, ByteArray.size_append] at o2_); (try simp only [ByteArray.size_extract, ByteArray.size_append] at o3_); (try simp only [ByteArray.size_extract, ByteArray.size_append] at o4_); (try simp only [ByteArray.size_extract, ByteArray.size_append] at o5_); (try simp only [ByteArray.size_extract, ByteArray.size_append] at o6_); (try simp only [ByteArray.size_extract, ByteArray.size_append] at o7_); (try simp only [ByteArray.size_extract, ByteArray.size_append] at o8_); (try simp only [ByteArray.size_extract, ByteArray.size_append] at o9_); (try simp only [ByteArray.size_extract, ByteArray.size_append] at o10_); (try simp only [ByteArray.size_extract, ByteArray.size_append] at o11_); (try simp only [ByteArray.size_extract, ByteArray.size_append] at o12_); (try simp only [ByteArray.size_extract, ByteArray.size_append] at o13_); (try simp only [ByteArray.size_extract, ByteArray.size_append] at o14_); (try simp only [ByteArray.size_extract, ByteArray.size_append] at o15_); (try simp only [ByteArray.size_extract, ByteArray.size_append] at o16_); (try simp only [ByteArray.size_extract, ByteArray.size_append] at o17_); omega)]; try with_reducible rfl)
                rotate_left
                ·simp only [Act.put, List.setIfInBounds_toArray, List.set_cons_zero, List.set_cons_succ, i64_w, i32_w]
                 rfl
                refine pure_ (i := 4) (N := some 46) (v := ?_) (a' := ?_) #[true, true, true, true, true, false, false, false] rfl rfl (any_of HT_.out (by kernel_rfl)) (fun _ _ _ h => h) (Or.inl ⟨by rfl, ?_⟩) ?_ ?_
                rotate_left
                ·intro w'
                 go_simp
                 first | (with_reducible rfl) | (rw [if_neg (by (try have o0_ := of_decide_eq_true c2b0); (try have o1_ := of_decide_eq_true c2b1); (try have o2_ := of_decide_eq_false c2b0); (try have o3_ := of_decide_eq_false c2b1); (try have o4_ := of_decide_eq_true c3b0); (try have o5_ := of_decide_eq_false c3b0); (try have o6_ := of_decide_eq_true c7b0); (try have o7_ := of_decide_eq_false c7b0); (try have o8_ := of_decide_eq_true c8b0); (try have o9_ := of_decide_eq_false c8b0); (try have o10_ := of_decide_eq_true c9b1); (try have o11_ := of_decide_eq_true c10b1); (try have o12_ := of_decide_eq_true c11b1); (try have o13_ := of_decide_eq_true c12b1); (try have o14_ := of_decide_eq_true c13b1); (try have o15_ := of_decide_eq_true c15b1); (try have o16_ := of_decide_eq_true c16b1); (try have o17_ := of_decide_eq_true c19b1); (try simp only [ByteArray.size_extract, ByteArray.size_append] at o0_); (try simp only [ByteArray.size_extract, ByteArray.size_append] at o1_); (try simp only [ByteArray.size_extract, ByteArray.size_append] at o2_); (try simp only [ByteArray.size_extract, ByteArray.size_append] at o3_); (try simp only [ByteArray.size_extract, ByteArray.size_append] at o4_); (try simp only [ByteArray.size_extract, ByteArray.size_append] at o5_); (try simp only [ByteArray.size_extract, ByteArray.size_append] at o6_); (try simp only [ByteArray.size_extract, ByteArray.size_append] at o7_); (try simp only [ByteArray.size_extract, ByteArray.size_append] at o8_); (try simp only [ByteArray.size_extract, ByteArray.size_append] at o9_); (try simp only [ByteArray.size_extract, ByteArray.size_append] at o10_); (try simp only [ByteArray.size_extract, ByteArray.size_append] at o11_); (try simp only [ByteArray.size_extract, ByteArray.size_append] at o12_); (try simp only [ByteArray.size_extract, ByteArray.size_append] at o13_); (try simp only [ByteArray.size_extract, ByteArray.size_append] at o14_); (try simp only [ByteArray.size_extract, ByteArray.size_append] at o15_); (try simp only [ByteArray.size_extract, ByteArray.size_append] at o16_); (try simp only [ByteArray.size_extract, ByteArray.size_append] at o17_); omega)]; try with_reducible rfl)
                rotate_left
                ·simp only [Act.put, List.setIfInBounds_toArray, List.set_cons_zero, List.set_cons_succ, i64_w, i32_w]
                 rfl
                refine pure_ (i := 5) (N := some 2) (v := ?_) (a' := ?_) #[true, true, true, true, true, true, false, false] rfl rfl (any_of HT_.out (by kernel_rfl)) (fun _ _ _ h => h) (Or.inl ⟨by rfl, ?_⟩) ?_ ?_
                rotate_left
                ·intro w'
                 go_simp
                 first | (with_reducible rfl) | (rw [if_neg (by (try have o0_ := of_decide_eq_true c2b0); (try have o1_ := of_decide_eq_true c2b1); (try have o2_ := of_decide_eq_false c2b0); (try have o3_ := of_decide_eq_false c2b1); (try have o4_ := of_decide_eq_true c3b0); (try have o5_ := of_decide_eq_false c3b0); (try have o6_ := of_decide_eq_true c7b0); (try have o7_ := of_decide_eq_false c7b0); (try have o8_ := of_decide_eq_true c8b0); (try have o9_ := of_decide_eq_false c8b0); (try have o10_ := of_decide_eq_true c9b1); (try have o11_ := of_decide_eq_true c10b1); (try have o12_ := of_decide_eq_true c11b1); (try have o13_ := of_decide_eq_true c12b1); (try have o14_ := of_decide_eq_true c13b1); (try have o15_ := of_decide_eq_true c15b1); (try have o16_ := of_decide_eq_true c16b1); (try have o17_ := of_decide_eq_true c19b1); (try simp only [ByteArray.size_extract, ByteArray.size_append] at o0_); (try simp only [ByteArray.size_extract, ByteArray.size_append] at o1_); (try simp only [ByteArray.size_extract, ByteArray.size_append] at o2_); (try simp only [ByteArray.size_extract, ByteArray.size_append] at o3_); (try simp only [ByteArray.size_extract, ByteArray.size_append] at o4_); (try simp only [ByteArray.size_extract, ByteArray.size_append] at o5_); (try simp only [ByteArray.size_extract, ByteArray.size_append] at o6_); (try simp only [ByteArray.size_extract, ByteArray.size_append] at o7_); (try simp only [ByteArray.size_extract, ByteArray.size_append] at o8_); (try simp only [ByteArray.size_extract, ByteArray.size_append] at o9_); (try simp only [ByteArray.size_extract, ByteArray.size_append] at o10_); (try simp only [ByteArray.size_extract, ByteArray.size_append] at o11_); (try simp only [ByteArray.size_extract, ByteArray.size_append] at o12_); (try simp only [ByteArray.size_extract, ByteArray.size_append] at o13_); (try simp only [ByteArray.size_extract, ByteArray.size_append] at o14_); (try simp only [ByteArray.size_extract, ByteArray.size_append] at o15_); (try simp only [ByteArray.size_extract, ByteArray.size_append] at o16_); (try simp only [ByteArray.size_extract, ByteArray.size_append] at o17_); omega)]; try with_reducible rfl)
                rotate_left
                ·simp only [Act.put, List.setIfInBounds_toArray, List.set_cons_zero, List.set_cons_succ, i64_w, i32_w]
                 rfl
                refine pure_ (i := 6) (N := some 3) (v := ?_) (a' := ?_) #[true, true, true, true, true, true, true, false] rfl rfl (any_of HT_.out (by kernel_rfl)) (fun _ _ _ h => h) (Or.inl ⟨by rfl, ?_⟩) ?_ ?_
                rotate_left
                ·intro w'
                 go_simp
                 first | (with_reducible rfl) | (rw [if_neg (by (try have o0_ := of_decide_eq_true c2b0); (try have o1_ := of_decide_eq_true c2b1); (try have o2_ := of_decide_eq_false c2b0); (try have o3_ := of_decide_eq_false c2b1); (try have o4_ := of_decide_eq_true c3b0); (try have o5_ := of_decide_eq_false c3b0); (try have o6_ := of_decide_eq_true c7b0); (try have o7_ := of_decide_eq_false c7b0); (try have o8_ := of_decide_eq_true c8b0); (try have o9_ := of_decide_eq_false c8b0); (try have o10_ := of_decide_eq_true c9b1); (try have o11_ := of_decide_eq_true c10b1); (try have o12_ := of_decide_eq_true c11b1); (try have o13_ := of_decide_eq_true c12b1); (try have o14_ := of_decide_eq_true c13b1); (try have o15_ := of_decide_eq_true c15b1); (try have o16_ := of_decide_eq_true c16b1); (try have o17_ := of_decide_eq_true c19b1); (try simp only [ByteArray.size_extract, ByteArray.size_append] at o0_); (try simp only [ByteArray.size_extract, ByteArray.size_append] at o1_); (try simp only [ByteArray.size_extract, ByteArray.size_append] at o2_); (try simp only [ByteArray.size_extract, ByteArray.size_append] at o3_); (try simp only [ByteArray.size_extract, ByteArray.size_append] at o4_); (try simp only [ByteArray.size_extract, ByteArray.size_append] at o5_); (try simp only [ByteArray.size_extract, ByteArray.size_append] at o6_); (try simp only [ByteArray.size_extract, ByteArray.size_append] at o7_); (try simp only [ByteArray.size_extract, ByteArray.size_append] at o8_); (try simp only [ByteArray.size_extract, ByteArray.size_append] at o9_); (try simp only [ByteArray.size_extract, ByteArray.size_append] at o10_); (try simp only [ByteArray.size_extract, ByteArray.size_append] at o11_); (try simp only [ByteArray.size_extract, ByteArray.size_append] at o12_); (try simp only [ByteArray.size_extract, ByteArray.size_append] at o13_); (try simp only [ByteArray.size_extract, ByteArray.size_append] at o14_); (try simp only [ByteArray.size_extract, ByteArray.size_append] at o15_); (try simp only [ByteArray.size_extract, ByteArray.size_append] at o16_); (try simp only [ByteArray.size_extract, ByteArray.size_append] at o17_); omega)]; try with_reducible rfl)
                rotate_left
                ·simp only [Act.put, List.setIfInBounds_toArray, List.set_cons_zero, List.set_cons_succ, i64_w, i32_w]
                 rfl
                refine pure_ (i := 7) (N := some 4) (v := ?_) (a' := ?_) #[true, true, true, true, true, true, true, true] rfl rfl (any_of HT_.out (by kernel_rfl)) (fun _ _ _ h => h) (Or.inl ⟨by rfl, ?_⟩) ?_ ?_
                rotate_left
                ·intro w'
                 go_simp
                 first | (with_reducible rfl) | (rw [if_neg (by (try have o0_ := of_decide_eq_true c2b0); (try have o1_ := of_decide_eq_true c2b1); (try have o2_ := of_decide_eq_false c2b0); (try have o3_ := of_decide_eq_false c2b1); (try have o4_ := of_decide_eq_true c3b0); (try have o5_ := of_decide_eq_false c3b0); (try have o6_ := of_decide_eq_true c7b0); (try have o7_ := of_decide_eq_false c7b0); (try have o8_ := of_decide_eq_true c8b0); (try have o9_ := of_decide_eq_false c8b0); (try have o10_ := of_decide_eq_true c9b1); (try have o11_ := of_decide_eq_true c10b1); (try have o12_ := of_decide_eq_true c11b1); (try have o13_ := of_decide_eq_true c12b1); (try have o14_ := of_decide_eq_true c13b1); (try have o15_ := of_decide_eq_true c15b1); (try have o16_ := of_decide_eq_true c16b1); (try have o17_ := of_decide_eq_true c19b1); (try simp only [ByteArray.size_extract, ByteArray.size_append] at o0_); (try simp only [ByteArray.size_extract, ByteArray.size_append] at o1_); (try simp only [ByteArray.size_extract, ByteArray.size_append] at o2_); (try simp only [ByteArray.size_extract, ByteArray.size_append] at o3_); (try simp only [ByteArray.size_extract, ByteArray.size_append] at o4_); (try simp only [ByteArray.size_extract, ByteArray.size_append] at o5_); (try simp only [ByteArray.size_extract, ByteArray.size_append] at o6_); (try simp only [ByteArray.size_extract, ByteArray.size_append] at o7_); (try simp only [ByteArray.size_extract, ByteArray.size_append] at o8_); (try simp only [ByteArray.size_extract, ByteArray.size_append] at o9_); (try simp only [ByteArray.size_extract, ByteArray.size_append] at o10_); (try simp only [ByteArray.size_extract, ByteArray.size_append] at o11_); (try simp only [ByteArray.size_extract, ByteArray.size_append] at o12_); (try simp only [ByteArray.size_extract, ByteArray.size_append] at o13_); (try simp only [ByteArray.size_extract, ByteArray.size_append] at o14_); (try simp only [ByteArray.size_extract, ByteArray.size_append] at o15_); (try simp only [ByteArray.size_extract, ByteArray.size_append] at o16_); (try simp only [ByteArray.size_extract, ByteArray.size_append] at o17_); omega)]; try with_reducible rfl)
                rotate_left
                ·simp only [Act.put, List.setIfInBounds_toArray, List.set_cons_zero, List.set_cons_succ, i64_w, i32_w]
                 rfl
                refine done_ (done_of HT_.out (by kernel_rfl)) ?_
                try go_wp2
                go_ret3
                exact ⟨by first | rfl | (simp [errW_none, errW_some] <;> rfl) | (simp only [← hji18]; first | rfl | (simp [errW_none, errW_some] <;> rfl)) | (simp [*, errW_none, errW_some] <;> rfl), bl_ HB⟩
               ·rw [if_neg c19] at H
                exact absurd H (by simp)
              ·rw [if_neg c17] at H
               have c17b0 : (t176.toList == (a0.extract 4 6).toList) = false := beq_eq_false_iff_ne.mpr c17
               have c17b1 : (t176.toList != (a0.extract 4 6).toList) = true := bne_iff_ne.mpr c17
               simp only [Option.some.injEq, Prod.mk.injEq] at H
               obtain ⟨rfl, rfl, rfl⟩ := H
               try go_wp2
               have n0_ := Aside0.mk (below_drew1 HB.out)
               clear HB
               have HB := n0_
               clear n0_
               refine start_ (n := 8) (S := fun w' => True) (ds := []) #[false, false, false, false, false, false, false, false] (by kernel_rfl) rfl rfl trivial (fun hHeld => ?_); refine with_tabW gafferref01_TakeFrame.tab13 gafferref01_TakeFrame.bits13 (fun HT_ HW_ => ?_)
               generalize wr.drew = w24 at HB hHeld ⊢
               refine pure_ (i := 0) (N := some 34) (v := ?_) (a' := ?_) #[true, false, false, false, false, false, false, false] rfl rfl (any_of HT_.out (by kernel_rfl)) (fun _ _ _ h => h) (Or.inl ⟨by rfl, ?_⟩) ?_ ?_
               rotate_left
               ·intro w'
                go_simp
                first | (with_reducible rfl) | (rw [if_neg (by (try have o0_ := of_decide_eq_true c2b0); (try have o1_ := of_decide_eq_true c2b1); (try have o2_ := of_decide_eq_false c2b0); (try have o3_ := of_decide_eq_false c2b1); (try have o4_ := of_decide_eq_true c3b0); (try have o5_ := of_decide_eq_false c3b0); (try have o6_ := of_decide_eq_true c7b0); (try have o7_ := of_decide_eq_false c7b0); (try have o8_ := of_decide_eq_true c8b0); (try have o9_ := of_decide_eq_false c8b0); (try have o10_ := of_decide_eq_true c9b1); (try have o11_ := of_decide_eq_true c10b1); (try have o12_ := of_decide_eq_true c11b1); (try have o13_ := of_decide_eq_true c12b1); (try have o14_ := of_decide_eq_true c13b1); (try have o15_ := of_decide_eq_true c15b1); (try have o16_ := of_decide_eq_true c16b1); (try simp only [ByteArray.size_extract, ByteArray.size_append] at o0_); (try simp only [ByteArray.size_extract, ByteArray.size_append] at o1_); (try simp only [ByteArray.size_extract, ByteArray.size_append] at o2_); (try simp only [ByteArray.size_extract, ByteArray.size_append] at o3_); (try simp only [ByteArray.size_extract, ByteArray.size_append] at o4_); (try simp only [ByteArray.size_extract, ByteArray.size_append] at o5_); (try simp only [ByteArray.size_extract, ByteArray.size_append] at o6_); (try simp only [ByteArray.size_extract, ByteArray.size_append] at o7_); (try simp only [ByteArray.size_extract, ByteArray.size_append] at o8_); (try simp only [ByteArray.size_extract, ByteArray.size_append] at o9_); (try simp only [ByteArray.size_extract, ByteArray.size_append] at o10_); (try simp only [ByteArray.size_extract, ByteArray.size_append] at o11_); (try simp only [ByteArray.size_extract, ByteArray.size_append] at o12_); (try simp only [ByteArray.size_extract, ByteArray.size_append] at o13_); (try simp only [ByteArray.size_extract, ByteArray.size_append] at o14_); (try simp only [ByteArray.size_extract, ByteArray.size_append] at o15_); (try simp only [ByteArray.size_extract, ByteArray.size_append] at o16_); omega)]; try with_reducible rfl)
               rotate_left
               ·simp only [Act.put, List.setIfInBounds_toArray, List.set_cons_zero, List.set_cons_succ, i64_w, i32_w]
                rfl
               refine pure_ (i := 1) (N := some 35) (v := ?_) (a' := ?_) #[true, true, false, false, false, false, false, false] rfl rfl (any_of HT_.out (by kernel_rfl)) (fun _ _ _ h => h) (Or.inl ⟨by rfl, ?_⟩) ?_ ?_
               rotate_left
               ·intro w'
                go_simp
                first | (with_reducible rfl) | (rw [if_neg (by (try have o0_ := of_decide_eq_true c2b0); (try have o1_ := of_decide_eq_true c2b1); (try have o2_ := of_decide_eq_false c2b0); (try have o3_ := of_decide_eq_false c2b1); (try have o4_ := of_decide_eq_true c3b0); (try have o5_ := of_decide_eq_false c3b0); (try have o6_ := of_decide_eq_true c7b0); (try have o7_ := of_decide_eq_false c7b0); (try have o8_ := of_decide_eq_true c8b0); (try have o9_ := of_decide_eq_false c8b0); (try have o10_ := of_decide_eq_true c9b1); (try have o11_ := of_decide_eq_true c10b1); (try have o12_ := of_decide_eq_true c11b1); (try have o13_ := of_decide_eq_true c12b1); (try have o14_ := of_decide_eq_true c13b1); (try have o15_ := of_decide_eq_true c15b1); (try have o16_ := of_decide_eq_true c16b1); (try simp only [ByteArray.size_extract, ByteArray.size_append] at o0_); (try simp only [ByteArray.size_extract, ByteArray.size_append] at o1_); (try simp only [ByteArray.size_extract, ByteArray.size_append] at o2_); (try simp only [ByteArray.size_extract, ByteArray.size_append] at o3_); (try simp only [ByteArray.size_extract, ByteArray.size_append] at o4_); (try simp only [ByteArray.size_extract, ByteArray.size_append] at o5_); (try simp only [ByteArray.size_extract, ByteArray.size_append] at o6_); (try simp only [ByteArray.size_extract, ByteArray.size_append] at o7_); (try simp only [ByteArray.size_extract, ByteArray.size_append] at o8_); (try simp only [ByteArray.size_extract, ByteArray.size_append] at o9_); (try simp only [ByteArray.size_extract, ByteArray.size_append] at o10_); (try simp only [ByteArray.size_extract, ByteArray.size_append] at o11_); (try simp only [ByteArray.size_extract, ByteArray.size_append] at o12_); (try simp only [ByteArray.size_extract, ByteArray.size_append] at o13_); (try simp only [ByteArray.size_extract, ByteArray.size_append] at o14_); (try simp only [ByteArray.size_extract, ByteArray.size_append] at o15_); (try simp only [ByteArray.size_extract, ByteArray.size_append] at o16_); omega)]; try with_reducible rfl)
               rotate_left
               ·simp only [Act.put, List.setIfInBounds_toArray, List.set_cons_zero, List.set_cons_succ, i64_w, i32_w]
                rfl
               refine pure_ (i := 2) (N := some 36) (v := ?_) (a' := ?_) #[true, true, true, false, false, false, false, false] rfl rfl (any_of HT_.out (by kernel_rfl)) (fun _ _ _ h => h) (Or.inl ⟨by rfl, ?_⟩) ?_ ?_
               rotate_left
               ·intro w'
                go_simp
                first | (with_reducible rfl) | (rw [if_neg (by (try have o0_ := of_decide_eq_true c2b0); (try have o1_ := of_decide_eq_true c2b1); (try have o2_ := of_decide_eq_false c2b0); (try have o3_ := of_decide_eq_false c2b1); (try have o4_ := of_decide_eq_true c3b0); (try have o5_ := of_decide_eq_false c3b0); (try have o6_ := of_decide_eq_true c7b0); (try have o7_ := of_decide_eq_false c7b0); (try have o8_ := of_decide_eq_true c8b0); (try have o9_ := of_decide_eq_false c8b0); (try have o10_ := of_decide_eq_true c9b1); (try have o11_ := of_decide_eq_true c10b1); (try have o12_ := of_decide_eq_true c11b1); (try have o13_ := of_decide_eq_true c12b1); (try have o14_ := of_decide_eq_true c13b1); (try have o15_ := of_decide_eq_true c15b1); (try have o16_ := of_decide_eq_true c16b1); (try simp only [ByteArray.size_extract, ByteArray.size_append] at o0_); (try simp only [ByteArray.size_extract, ByteArray.size_append] at o1_); (try simp only [ByteArray.size_extract, ByteArray.size_append] at o2_); (try simp only [ByteArray.size_extract, ByteArray.size_append] at o3_); (try simp only [ByteArray.size_extract, ByteArray.size_append] at o4_); (try simp only [ByteArray.size_extract, ByteArray.size_append] at o5_); (try simp only [ByteArray.size_extract, ByteArray.size_append] at o6_); (try simp only [ByteArray.size_extract, ByteArray.size_append] at o7_); (try simp only [ByteArray.size_extract, ByteArray.size_append] at o8_); (try simp only [ByteArray.size_extract, ByteArray.size_append] at o9_); (try simp only [ByteArray.size_extract, ByteArray.size_append] at o10_); (try simp only [ByteArray.size_extract, ByteArray.size_append] at o11_); (try simp only [ByteArray.size_extract, ByteArray.size_append] at o12_); (try simp only [ByteArray.size_extract, ByteArray.size_append] at o13_); (try simp only [ByteArray.size_extract, ByteArray.size_append] at o14_); (try simp only [ByteArray.size_extract, ByteArray.size_append] at o15_); (try simp only [ByteArray.size_extract, ByteArray.size_append] at o16_); omega)]; try with_reducible rfl)
               rotate_left
               ·simp only [Act.put, List.setIfInBounds_toArray, List.set_cons_zero, List.set_cons_succ, i64_w, i32_w]
                rfl
               refine pure_ (i := 3) (N := some 37) (v := ?_) (a' := ?_) #[true, true, true, true, false, false, false, false] rfl rfl (any_of HT_.out (by kernel_rfl)) (fun _ _ _ h => h) (Or.inl ⟨by rfl, ?_⟩) ?_ ?_
               rotate_left
               ·intro w'
                go_simp
                first | (with_reducible rfl) | (rw [if_neg (by (try have o0_ := of_decide_eq_true c2b0); (try have o1_ := of_decide_eq_true c2b1); (try have o2_ := of_decide_eq_false c2b0); (try have o3_ := of_decide_eq_false c2b1); (try have o4_ := of_decide_eq_true c3b0); (try have o5_ := of_decide_eq_false c3b0); (try have o6_ := of_decide_eq_true c7b0); (try have o7_ := of_decide_eq_false c7b0); (try have o8_ := of_decide_eq_true c8b0); (try have o9_ := of_decide_eq_false c8b0); (try have o10_ := of_decide_eq_true c9b1); (try have o11_ := of_decide_eq_true c10b1); (try have o12_ := of_decide_eq_true c11b1); (try have o13_ := of_decide_eq_true c12b1); (try have o14_ := of_decide_eq_true c13b1); (try have o15_ := of_decide_eq_true c15b1); (try have o16_ := of_decide_eq_true c16b1); (try simp only [ByteArray.size_extract, ByteArray.size_append] at o0_); (try simp only [ByteArray.size_extract, ByteArray.size_append] at o1_); (try simp only [ByteArray.size_extract, ByteArray.size_append] at o2_); (try simp only [ByteArray.size_extract, ByteArray.size_append] at o3_); (try simp only [ByteArray.size_extract, ByteArray.size_append] at o4_); (try simp only [ByteArray.size_extract, ByteArray.size_append] at o5_); (try simp only [ByteArray.size_extract, ByteArray.size_append] at o6_); (try simp only [ByteArray.size_extract, ByteArray.size_append] at o7_); (try simp only [ByteArray.size_extract, ByteArray.size_append] at o8_); (try simp only [ByteArray.size_extract, ByteArray.size_append] at o9_); (try simp only [ByteArray.size_extract, ByteArray.size_append] at o10_); (try simp only [ByteArray.size_extract, ByteArray.size_append] at o11_); (try simp only [ByteArray.size_extract, ByteArray.size_append] at o12_); (try simp only [ByteArray.size_extract, ByteArray.size_append] at o13_); (try simp only [ByteArray.size_extract, ByteArray.size_append] at o14_); (try simp only [ByteArray.size_extract, ByteArray.size_append] at o15_); (try simp only [ByteArray.size_extract, ByteArray.size_append] at o16_); omega)]; try with_reducible rfl)
               rotate_left
               ·simp only [Act.put, List.setIfInBounds_toArray, List.set_cons_zero, List.set_cons_succ, i64_w, i32_w]
                rfl
               refine pure_ (i := 5) (N := some 39) (v := ?_) (a' := ?_) #[true, true, true, true, false, true, false, false] rfl rfl (any_of HT_.out (by kernel_rfl)) (fun _ _ _ h => h) (Or.inl ⟨by rfl, ?_⟩) ?_ ?_
               rotate_left
               ·intro w'
                go_simp
                first | (with_reducible rfl) | (rw [if_neg (by (try have o0_ := of_decide_eq_true c2b0); (try have o1_ := of_decide_eq_true c2b1); (try have o2_ := of_decide_eq_false c2b0); (try have o3_ := of_decide_eq_false c2b1); (try have o4_ := of_decide_eq_true c3b0); (try have o5_ := of_decide_eq_false c3b0); (try have o6_ := of_decide_eq_true c7b0); (try have o7_ := of_decide_eq_false c7b0); (try have o8_ := of_decide_eq_true c8b0); (try have o9_ := of_decide_eq_false c8b0); (try have o10_ := of_decide_eq_true c9b1); (try have o11_ := of_decide_eq_true c10b1); (try have o12_ := of_decide_eq_true c11b1); (try have o13_ := of_decide_eq_true c12b1); (try have o14_ := of_decide_eq_true c13b1); (try have o15_ := of_decide_eq_true c15b1); (try have o16_ := of_decide_eq_true c16b1); (try simp only [ByteArray.size_extract, ByteArray.size_append] at o0_); (try simp only [ByteArray.size_extract, ByteArray.size_append] at o1_); (try simp only [ByteArray.size_extract, ByteArray.size_append] at o2_); (try simp only [ByteArray.size_extract, ByteArray.size_append] at o3_); (try simp only [ByteArray.size_extract, ByteArray.size_append] at o4_); (try simp only [ByteArray.size_extract, ByteArray.size_append] at o5_); (try simp only [ByteArray.size_extract, ByteArray.size_append] at o6_); (try simp only [ByteArray.size_extract, ByteArray.size_append] at o7_); (try simp only [ByteArray.size_extract, ByteArray.size_append] at o8_); (try simp only [ByteArray.size_extract, ByteArray.size_append] at o9_); (try simp only [ByteArray.size_extract, ByteArray.size_append] at o10_); (try simp only [ByteArray.size_extract, ByteArray.size_append] at o11_); (try simp only [ByteArray.size_extract, ByteArray.size_append] at o12_); (try simp only [ByteArray.size_extract, ByteArray.size_append] at o13_); (try simp only [ByteArray.size_extract, ByteArray.size_append] at o14_); (try simp only [ByteArray.size_extract, ByteArray.size_append] at o15_); (try simp only [ByteArray.size_extract, ByteArray.size_append] at o16_); omega)]; try with_reducible rfl)
               rotate_left
               ·simp only [Act.put, List.setIfInBounds_toArray, List.set_cons_zero, List.set_cons_succ, i64_w, i32_w]
                rfl
               refine pure_ (i := 6) (N := some 40) (v := ?_) (a' := ?_) #[true, true, true, true, false, true, true, false] rfl rfl (any_of HT_.out (by kernel_rfl)) (fun _ _ _ h => h) (Or.inl ⟨by rfl, ?_⟩) ?_ ?_
               rotate_left
               ·intro w'
                go_simp
                first | (with_reducible rfl) | (rw [if_neg (by (try have o0_ := of_decide_eq_true c2b0); (try have o1_ := of_decide_eq_true c2b1); (try have o2_ := of_decide_eq_false c2b0); (try have o3_ := of_decide_eq_false c2b1); (try have o4_ := of_decide_eq_true c3b0); (try have o5_ := of_decide_eq_false c3b0); (try have o6_ := of_decide_eq_true c7b0); (try have o7_ := of_decide_eq_false c7b0); (try have o8_ := of_decide_eq_true c8b0); (try have o9_ := of_decide_eq_false c8b0); (try have o10_ := of_decide_eq_true c9b1); (try have o11_ := of_decide_eq_true c10b1); (try have o12_ := of_decide_eq_true c11b1); (try have o13_ := of_decide_eq_true c12b1); (try have o14_ := of_decide_eq_true c13b1); (try have o15_ := of_decide_eq_true c15b1); (try have o16_ := of_decide_eq_true c16b1); (try simp only [ByteArray.size_extract, ByteArray.size_append] at o0_); (try simp only [ByteArray.size_extract, ByteArray.size_append] at o1_); (try simp only [ByteArray.size_extract, ByteArray.size_append] at o2_); (try simp only [ByteArray.size_extract, ByteArray.size_append] at o3_); (try simp only [ByteArray.size_extract, ByteArray.size_append] at o4_); (try simp only [ByteArray.size_extract, ByteArray.size_append] at o5_); (try simp only [ByteArray.size_extract, ByteArray.size_append] at o6_); (try simp only [ByteArray.size_extract, ByteArray.size_append] at o7_); (try simp only [ByteArray.size_extract, ByteArray.size_append] at o8_); (try simp only [ByteArray.size_extract, ByteArray.size_append] at o9_); (try simp only [ByteArray.size_extract, ByteArray.size_append] at o10_); (try simp only [ByteArray.size_extract, ByteArray.size_append] at o11_); (try simp only [ByteArray.size_extract, ByteArray.size_append] at o12_); (try simp only [ByteArray.size_extract, ByteArray.size_append] at o13_); (try simp only [ByteArray.size_extract, ByteArray.size_append] at o14_); (try simp only [ByteArray.size_extract, ByteArray.size_append] at o15_); (try simp only [ByteArray.size_extract, ByteArray.size_append] at o16_); omega)]; try with_reducible rfl)
               rotate_left
               ·simp only [Act.put, List.setIfInBounds_toArray, List.set_cons_zero, List.set_cons_succ, i64_w, i32_w]
                rfl
               refine one_ (i := 4) (N := some 38) #[true, true, true, true, true, true, true, false] rfl rfl (one_of HT_.out (by kernel_rfl)) (by decide) (fun K hK => ?_)
               refine goes_ Try.func34 (by kernel_rfl) rfl #[.string ((a0.extract 0 4) ++ (a0.extract 6 ((IntKind.u64.wrap (x5_1 + 6)) : Int).toNat))] (by rfl) rfl rfl (ar_) ?_
               with_reducible refine (gafferref01_check.calls k1 ((a0.extract 0 4) ++ (a0.extract 6 ((IntKind.u64.wrap (x5_1 + 6)) : Int).toNat)) t176 _ A14.out).mono ?_
               rintro e w25 ⟨rfl, hb⟩
               refine ⟨_, rfl, ?_⟩
               have n0_ := Aside0.mk (below_step (bl_ HB) hb)
               clear HB
               have HB := n0_
               clear n0_
               (try clear hb)
               (try clear hb2)
               (try clear hk)
               (try clear hi)
               refine hK.out _ _ trivial (fun hHeld => ?_)
               clear hK K
               refine norm_ (a' := ?_) ?_ ?_
               rotate_left
               ·show Act.put _ (some 38) _ = _
                simp only [Act.put, List.setIfInBounds_toArray, List.set_cons_zero, List.set_cons_succ, i64_w, i32_w]
                rfl
               refine pure_ (i := 7) (N := some 41) (v := ?_) (a' := ?_) #[true, true, true, true, true, true, true, true] rfl rfl (any_of HT_.out (by kernel_rfl)) (fun _ _ _ h => h) (Or.inl ⟨by rfl, ?_⟩) ?_ ?_
               rotate_left
               ·intro w'
                go_simp
                first | (with_reducible rfl) | (rw [if_neg (by (try have o0_ := of_decide_eq_true c2b0); (try have o1_ := of_decide_eq_true c2b1); (try have o2_ := of_decide_eq_false c2b0); (try have o3_ := of_decide_eq_false c2b1); (try have o4_ := of_decide_eq_true c3b0); (try have o5_ := of_decide_eq_false c3b0); (try have o6_ := of_decide_eq_true c7b0); (try have o7_ := of_decide_eq_false c7b0); (try have o8_ := of_decide_eq_true c8b0); (try have o9_ := of_decide_eq_false c8b0); (try have o10_ := of_decide_eq_true c9b1); (try have o11_ := of_decide_eq_true c10b1); (try have o12_ := of_decide_eq_true c11b1); (try have o13_ := of_decide_eq_true c12b1); (try have o14_ := of_decide_eq_true c13b1); (try have o15_ := of_decide_eq_true c15b1); (try have o16_ := of_decide_eq_true c16b1); (try simp only [ByteArray.size_extract, ByteArray.size_append] at o0_); (try simp only [ByteArray.size_extract, ByteArray.size_append] at o1_); (try simp only [ByteArray.size_extract, ByteArray.size_append] at o2_); (try simp only [ByteArray.size_extract, ByteArray.size_append] at o3_); (try simp only [ByteArray.size_extract, ByteArray.size_append] at o4_); (try simp only [ByteArray.size_extract, ByteArray.size_append] at o5_); (try simp only [ByteArray.size_extract, ByteArray.size_append] at o6_); (try simp only [ByteArray.size_extract, ByteArray.size_append] at o7_); (try simp only [ByteArray.size_extract, ByteArray.size_append] at o8_); (try simp only [ByteArray.size_extract, ByteArray.size_append] at o9_); (try simp only [ByteArray.size_extract, ByteArray.size_append] at o10_); (try simp only [ByteArray.size_extract, ByteArray.size_append] at o11_); (try simp only [ByteArray.size_extract, ByteArray.size_append] at o12_); (try simp only [ByteArray.size_extract, ByteArray.size_append] at o13_); (try simp only [ByteArray.size_extract, ByteArray.size_append] at o14_); (try simp only [ByteArray.size_extract, ByteArray.size_append] at o15_); (try simp only [ByteArray.size_extract, ByteArray.size_append] at o16_); omega)]; try with_reducible rfl)
               rotate_left
               ·simp only [Act.put, List.setIfInBounds_toArray, List.set_cons_zero, List.set_cons_succ, i64_w, i32_w]
                rfl
               refine done_ (done_of HT_.out (by kernel_rfl)) ?_
               try go_wp2
               go_ret3
               exact ⟨by first | rfl | (simp; done) | (simp [*]; done), bl_ HB⟩
             ·rw [if_neg c16] at H
              exact absurd H (by simp)
            ·rw [if_neg c15] at H
             exact absurd H (by simp)
           ·rw [if_neg c13] at H
            exact absurd H (by simp)
          ·rw [if_neg c12] at H
           exact absurd H (by simp)
         ·rw [if_neg c11] at H
          exact absurd H (by simp)
        ·rw [if_neg c10] at H
         exact absurd H (by simp)
       ·rw [if_neg c9] at H
        exact absurd H (by simp)

end Go.Proofs.Ytkmkbhiipieolaa.PA
