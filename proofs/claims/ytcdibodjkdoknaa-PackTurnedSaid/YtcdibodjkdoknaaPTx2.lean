-- Written for this claim by a program of this session. Lean checks it.
import Derived.Test.YtcdibodjkdoknaaPTx0
import Derived.Test.YtcdibodjkdoknaaPTx1
namespace Go.Proofs.Ytcdibodjkdoknaa.PT
open Go.RowKit Go.Proofs.YtcdibodjkdoknaaW.PrintWords Go.Proofs.YtcdibodjkdoknaaW.PrintLast Go.Proofs.YtcdibodjkdoknaaW.PrintMore Go.Proofs.Ytcdibodjkdoknaa.Sh Go.Proofs.Ytcdibodjkdoknaa.Op
attribute [local go_sem] max2_int min2_int max_two min_two max_three min_three max_four min_four   -- for this text's walks alone
set_option linter.unusedVariables false
set_option maxHeartbeats 80000000
set_option maxRecDepth 100000
set_option linter.unusedSimpArgs false

/-! ### gafferlaw01_PackTurned: function 3 -/
theorem turn_cell (W : World) (F : ByteArray) (i : Int) (h0 : 0 ≤ i) (h1 : i < (F.size : Int)) : (Lib.bytesWorld W 5 F).cell? ⟨W.heap.size, i.toNat, none⟩ = some (.int .u8 (bt F i)) := by
 rw [Lib.bytesWorld_cell W 5 F i.toNat (by omega), ← rd_bytesOf]
 unfold rd bytesOf
 rw [List.getD_eq_getElem?_getD, List.getD_eq_getElem?_getD, List.getElem?_map]
 have h' : i.toNat < F.data.toList.length := by rw [Array.length_toList]; show i.toNat < F.size; omega
 rw [List.getElem?_eq_getElem h']
 rfl
theorem turn_size (W : World) (F : ByteArray) : F.size ≤ (Lib.bytesCells W 5 F).size := by
 unfold Lib.bytesCells
 rw [Array.size_append, Array.size_map]
 exact Nat.le_add_right _ _
theorem turn_frozen (W : World) (F : ByteArray) (j : Nat) (h1 : j < F.size) : (Lib.bytesWorld W 5 F).frozen? ⟨W.heap.size, j, none⟩ = false := by
 have hb := Lib.bytesWorld_at_new W 5 F
 have hs := turn_size W F
 unfold World.frozen?
 rw [hb]
 simp
 omega
theorem turn_string (W : World) (F : ByteArray) (i : Int) (v : Int) (h0 : 0 ≤ i) (h1 : i < (F.size : Int)) (hF : F.size ≤ 9223372036854775807) (c : Nat) : (convert 26 9 (.slice (some ⟨W.heap.size, 0, none⟩) F.size c)).run Try.prog ((Lib.bytesWorld W 5 F).setCell ⟨W.heap.size, i.toNat, none⟩ (.int .u8 v)) = .ok (.string (strOfNums ((bytesOf F).set i.toNat v))) ((Lib.bytesWorld W 5 F).setCell ⟨W.heap.size, i.toNat, none⟩ (.int .u8 v)) := by
 refine string_of_reads Try.underlying26 Try.underlying5 Try.underlying9 ?_
 refine ⟨by rw [List.length_set, bytesOf_length], hF, fun _ => ⟨_, rfl, fun j hj => ?_⟩⟩
 have hc : (Lib.bytesWorld W 5 F).cell? ⟨W.heap.size, j, none⟩ = some (.int .u8 ((bytesOf F).getD j 0)) := by
  have h := turn_cell W F (j : Int) (by omega) (by omega)
  rw [← rd_bytesOf] at h
  exact h
 have ha : Addr.add ⟨W.heap.size, 0, none⟩ j = ⟨W.heap.size, j, none⟩ := by unfold Addr.add; by_cases hj0 : j = 0 <;> simp [hj0]
 rw [ha]
 have hb := Lib.bytesWorld_at_new W 5 F
 have hs := turn_size W F
 by_cases e : i.toNat = j
 ·subst e
  rw [List.getD_eq_getElem?_getD, List.getElem?_set_self (by rw [bytesOf_length]; omega)]
  exact World.cell?_setCell_same' _ _ _ (by rw [hc]; rfl)
 rw [List.getD_eq_getElem?_getD, List.getElem?_set_ne e, ← List.getD_eq_getElem?_getD]
 rw [World.cell?_setCell_other]
 · exact hc
 · intro h; injection h with _ h2 _; exact e h2
def gafferlaw01_PackTurned.turned (F : ByteArray) (i b : Int) : ByteArray := strOfNums ((bytesOf F).set i.toNat (bits BinOp.xor IntKind.u8 (bt F i) (2 ^ (b % 8).toNat % 256)))
def gafferlaw01_PackTurned.f (k : Nat) (a0 : ByteArray) (a1 a2 : Int) : Option Bool := (gafferlaw01_frames.f k).bind fun t => (if t = true then ((pack_Frame.f k a0).bind fun F => (if F.2 = 0 then (if a1 < 0 then (some true) else (if (F.1.size : Int) ≤ a1 then (some true) else (if F.1.size ≤ 9223372036854775807 then (if 0 ≤ a2 then ((pack_TakeFrame.f k (gafferlaw01_PackTurned.turned F.1 a1 a2)).bind fun T => (if T.2.2 = 0 then (if wrap64 ((T.1.size : Int) + (T.2.1.size : Int)) = (a0.size : Int) then (some ((T.1.size : Int) != (a0.size : Int))) else (some true)) else (some true))) else none) else none))) else (some true))) else (some false))
theorem gafferlaw01_PackTurned.mono : ∀ a0 a1 a2 k, LeO (gafferlaw01_PackTurned.f k a0 a1 a2) (gafferlaw01_PackTurned.f (k + 1) a0 a1 a2) := by
 intro a0 a1 a2 k
 unfold gafferlaw01_PackTurned.f
 repeat' with_reducible first | exact gafferlaw01_frames.mono _ | exact pack_Frame.mono _ _ | exact pack_TakeFrame.mono _ _ | exact LeO.refl _ | exact LeO.none _ | refine LeO.ite ?_ ?_ | refine LeO.bind ?_ (fun _ => ?_)
theorem gafferlaw01_PackTurned.calls (k : Nat) (a0 : ByteArray) (a1 : Int) (a2 : Int) (r : Bool) (w : World) (h : gafferlaw01_PackTurned.f k a0 a1 a2 = some r) (hr : r = true) :
  Calls Try.prog 3 #[.string a0, .int .i64 a1, .int .u8 a2] w fun e w' => e = .returned (.bool r) ∧ Below w.heap.size w w' := by
 subst hr
 have HB := a_ (Below.refl w.heap.size w)
 obtain ⟨t1, A10, H⟩ := Option.bind_eq_some_iff.mp (show ((gafferlaw01_frames.f k).bind fun t => (if t = true then ((pack_Frame.f k a0).bind fun F => (if F.2 = 0 then (if a1 < 0 then (some true) else (if (F.1.size : Int) ≤ a1 then (some true) else (if F.1.size ≤ 9223372036854775807 then (if 0 ≤ a2 then ((pack_TakeFrame.f k (gafferlaw01_PackTurned.turned F.1 a1 a2)).bind fun T => (if T.2.2 = 0 then (if wrap64 ((T.1.size : Int) + (T.2.1.size : Int)) = (a0.size : Int) then (some ((T.1.size : Int) != (a0.size : Int))) else (some true)) else (some true))) else none) else none))) else (some true))) else (some false))) = some true from h)
 have A1 := a_ A10
 clear h A10
 by_cases c1 : t1 = true
 case neg => rw [if_neg c1] at H; exact absurd (Option.some.inj H) (by decide)
 subst c1
 rw [if_pos rfl] at H
 obtain ⟨⟨F, w2⟩, A20, H⟩ := Option.bind_eq_some_iff.mp H
 dsimp only at H
 have A2 := a_ A20
 clear A20
 have kb := fun W => print_bytes (P := Try.prog) 9 26 5 Try.underlying9 Try.underlying26 Try.underlying5 F W
 by_cases c2 : w2 = 0
 rotate_left
 · have c2b0 : (w2 == 0) = false := beq_eq_false_iff_ne.mpr c2
   have c2b1 : (w2 != 0) = true := bne_iff_ne.mpr c2
   clear H
   go_enter Try.func3, Try.ntmps3
   go_wp2_with (first | ((with_reducible refine gk_ 10 ?_); refine gl_ (some 13) Try.func10 #[] ?_; (with_reducible refine (gafferlaw01_frames.calls k true _ A1.out).mono ?_); rintro e w10 ⟨rfl, hb⟩; refine ⟨_, rfl, ?_⟩; replace HB := hB_ (bl_ HB) hb; (try clear hb)) | ((with_reducible refine gk_ 11 ?_); refine gl_ (some 17) Try.func11 #[.string a0] ?_; (with_reducible refine (pack_Frame.calls k a0 F _ _ A2.out).mono ?_); rintro e w11 ⟨rfl, hb⟩; refine ⟨_, rfl, ?_⟩; replace HB := hB_ (bl_ HB) hb; (try clear hb)))
   go_ret
   exact ⟨rfl, bl_ HB⟩
 rw [if_pos c2] at H
 subst c2
 by_cases c3 : a1 < 0
 · have c3b0 : decide (a1 < 0) = true := decide_eq_true c3
   clear H
   go_enter Try.func3, Try.ntmps3
   go_wp2_with (first | ((with_reducible refine gk_ 10 ?_); refine gl_ (some 13) Try.func10 #[] ?_; (with_reducible refine (gafferlaw01_frames.calls k true _ A1.out).mono ?_); rintro e w10 ⟨rfl, hb⟩; refine ⟨_, rfl, ?_⟩; replace HB := hB_ (bl_ HB) hb; (try clear hb)) | ((with_reducible refine gk_ 11 ?_); refine gl_ (some 17) Try.func11 #[.string a0] ?_; (with_reducible refine (pack_Frame.calls k a0 F _ _ A2.out).mono ?_); rintro e w11 ⟨rfl, hb⟩; refine ⟨_, rfl, ?_⟩; replace HB := hB_ (bl_ HB) hb; (try clear hb)))
   go_ret
   exact ⟨rfl, bl_ HB⟩
 rw [if_neg c3] at H
 have c3b0 : decide (a1 < 0) = false := decide_eq_false c3
 by_cases c4 : (F.size : Int) ≤ a1
 · have c4b0 : decide ((F.size : Int) ≤ a1) = true := decide_eq_true c4
   clear H
   go_enter Try.func3, Try.ntmps3
   go_wp2_with (first | ((with_reducible refine gk_ 10 ?_); refine gl_ (some 13) Try.func10 #[] ?_; (with_reducible refine (gafferlaw01_frames.calls k true _ A1.out).mono ?_); rintro e w10 ⟨rfl, hb⟩; refine ⟨_, rfl, ?_⟩; replace HB := hB_ (bl_ HB) hb; (try clear hb)) | ((with_reducible refine gk_ 11 ?_); refine gl_ (some 17) Try.func11 #[.string a0] ?_; (with_reducible refine (pack_Frame.calls k a0 F _ _ A2.out).mono ?_); rintro e w11 ⟨rfl, hb⟩; refine ⟨_, rfl, ?_⟩; replace HB := hB_ (bl_ HB) hb; (try clear hb)))
   go_ret
   exact ⟨rfl, bl_ HB⟩
 rw [if_neg c4] at H
 have c4b0 : decide ((F.size : Int) ≤ a1) = false := decide_eq_false c4
 by_cases hF : F.size ≤ 9223372036854775807
 case neg => rw [if_neg hF] at H; cases H
 rw [if_pos hF] at H
 by_cases hb0 : 0 ≤ a2
 case neg => rw [if_neg hb0] at H; cases H
 rw [if_pos hb0] at H
 obtain ⟨⟨p, q, w3⟩, A30, H⟩ := Option.bind_eq_some_iff.mp H
 dsimp only at H
 have A3 := a_ A30
 clear A30
 have g1 : 0 ≤ a1 := by omega
 have g2 : a1 < (F.size : Int) := by omega
 have kc := fun W => turn_cell W F a1 g1 g2
 have kf := fun W => turn_frozen W F a1.toNat (by omega)
 have ks := fun W v => turn_string W F a1 v g1 g2 hF
 clear hF c3 c4
 by_cases c5 : w3 = 0
 rotate_left
 · have c5b0 : (w3 == 0) = false := beq_eq_false_iff_ne.mpr c5
   have c5b1 : (w3 != 0) = true := bne_iff_ne.mpr c5
   clear H
   go_enter Try.func3, Try.ntmps3
   go_wp2_with (first | ((with_reducible refine gk_ 10 ?_); refine gl_ (some 13) Try.func10 #[] ?_; (with_reducible refine (gafferlaw01_frames.calls k true _ A1.out).mono ?_); rintro e w10 ⟨rfl, hb⟩; refine ⟨_, rfl, ?_⟩; replace HB := hB_ (bl_ HB) hb; (try clear hb)) | ((with_reducible refine gk_ 11 ?_); refine gl_ (some 17) Try.func11 #[.string a0] ?_; (with_reducible refine (pack_Frame.calls k a0 F _ _ A2.out).mono ?_); rintro e w11 ⟨rfl, hb⟩; refine ⟨_, rfl, ?_⟩; replace HB := hB_ (bl_ HB) hb; (try clear hb)) | ((with_reducible refine gk_ 12 ?_); refine gl_ (some 46) Try.func12 #[.string (gafferlaw01_PackTurned.turned F a1 a2)] ?_; (with_reducible refine (pack_TakeFrame.calls k (gafferlaw01_PackTurned.turned F a1 a2) p q _ _ A3.out).mono ?_); rintro e w12 ⟨rfl, hb⟩; refine ⟨_, rfl, ?_⟩; replace HB := hB_ (Below.setCell (p := ⟨_, _, none⟩) (bytes_below HB.out HB.out.size 5 F) HB.out.size _) hb; (try clear hb)))
   go_ret
   exact ⟨rfl, bl_ HB⟩
 rw [if_pos c5] at H
 subst c5
 by_cases c6 : wrap64 ((p.size : Int) + (q.size : Int)) = (a0.size : Int)
 rotate_left
 · have c6b0 : (wrap64 ((p.size : Int) + (q.size : Int)) == (a0.size : Int)) = false := beq_eq_false_iff_ne.mpr c6
   have c6b1 : (wrap64 ((p.size : Int) + (q.size : Int)) != (a0.size : Int)) = true := bne_iff_ne.mpr c6
   clear H
   go_enter Try.func3, Try.ntmps3
   go_wp2_with (first | ((with_reducible refine gk_ 10 ?_); refine gl_ (some 13) Try.func10 #[] ?_; (with_reducible refine (gafferlaw01_frames.calls k true _ A1.out).mono ?_); rintro e w10 ⟨rfl, hb⟩; refine ⟨_, rfl, ?_⟩; replace HB := hB_ (bl_ HB) hb; (try clear hb)) | ((with_reducible refine gk_ 11 ?_); refine gl_ (some 17) Try.func11 #[.string a0] ?_; (with_reducible refine (pack_Frame.calls k a0 F _ _ A2.out).mono ?_); rintro e w11 ⟨rfl, hb⟩; refine ⟨_, rfl, ?_⟩; replace HB := hB_ (bl_ HB) hb; (try clear hb)) | ((with_reducible refine gk_ 12 ?_); refine gl_ (some 46) Try.func12 #[.string (gafferlaw01_PackTurned.turned F a1 a2)] ?_; (with_reducible refine (pack_TakeFrame.calls k (gafferlaw01_PackTurned.turned F a1 a2) p q _ _ A3.out).mono ?_); rintro e w12 ⟨rfl, hb⟩; refine ⟨_, rfl, ?_⟩; replace HB := hB_ (Below.setCell (p := ⟨_, _, none⟩) (bytes_below HB.out HB.out.size 5 F) HB.out.size _) hb; (try clear hb)))
   go_ret
   exact ⟨rfl, bl_ HB⟩
 rw [if_pos c6] at H
 have c7b1 : ((p.size : Int) != (a0.size : Int)) = true := Option.some.inj H
 have c7b0 : ((p.size : Int) == (a0.size : Int)) = false := by simpa [bne] using c7b1
 have c6b0 : (wrap64 ((p.size : Int) + (q.size : Int)) == (a0.size : Int)) = true := beq_iff_eq.mpr c6
 have c6b1 : (wrap64 ((p.size : Int) + (q.size : Int)) != (a0.size : Int)) = false := bne_eq_false_iff_eq.mpr c6
 clear H c6
 go_enter Try.func3, Try.ntmps3
 go_wp2_with (first | ((with_reducible refine gk_ 10 ?_); refine gl_ (some 13) Try.func10 #[] ?_; (with_reducible refine (gafferlaw01_frames.calls k true _ A1.out).mono ?_); rintro e w10 ⟨rfl, hb⟩; refine ⟨_, rfl, ?_⟩; replace HB := hB_ (bl_ HB) hb; (try clear hb)) | ((with_reducible refine gk_ 11 ?_); refine gl_ (some 17) Try.func11 #[.string a0] ?_; (with_reducible refine (pack_Frame.calls k a0 F _ _ A2.out).mono ?_); rintro e w11 ⟨rfl, hb⟩; refine ⟨_, rfl, ?_⟩; replace HB := hB_ (bl_ HB) hb; (try clear hb)) | ((with_reducible refine gk_ 12 ?_); refine gl_ (some 46) Try.func12 #[.string (gafferlaw01_PackTurned.turned F a1 a2)] ?_; (with_reducible refine (pack_TakeFrame.calls k (gafferlaw01_PackTurned.turned F a1 a2) p q _ _ A3.out).mono ?_); rintro e w12 ⟨rfl, hb⟩; refine ⟨_, rfl, ?_⟩; replace HB := hB_ (Below.setCell (p := ⟨_, _, none⟩) (bytes_below HB.out HB.out.size 5 F) HB.out.size _) hb; (try clear hb)))
 go_ret
 exact ⟨rfl, bl_ HB⟩
/-- THE ONE PURE STATEMENT of gafferlaw01_PackTurned. -/
def gafferlaw01_PackTurned.Pure : Prop := ∀ (a0 : ByteArray) (a1 : Int) (a2 : Int), a0.size ≤ 140737488351232 → (Lit.int .i64 a1).wf = true → (Lit.int .u8 a2).wf = true → ∃ k, gafferlaw01_PackTurned.f k a0 a1 a2 = some true
theorem gafferlaw01_PackTurned.walk (P : gafferlaw01_PackTurned.Pure) (a0 : ByteArray) (a1 : Int) (a2 : Int) (w : World) (w0 : a0.size ≤ 140737488351232) (w1 : (Lit.int .i64 a1).wf = true) (w2 : (Lit.int .u8 a2).wf = true) : Calls Try.prog 3 #[.string a0, .int .i64 a1, .int .u8 a2] w fun e w' => e = .returned (.bool true) ∧ Below w.heap.size w w' := by
 obtain ⟨k, h⟩ := P a0 a1 a2 w0 w1 w2
 refine (gafferlaw01_PackTurned.calls k a0 a1 a2 true w h rfl).mono ?_
 rintro e w' ⟨rfl, hd⟩
 exact ⟨rfl, hd⟩

end Go.Proofs.Ytcdibodjkdoknaa.PT
