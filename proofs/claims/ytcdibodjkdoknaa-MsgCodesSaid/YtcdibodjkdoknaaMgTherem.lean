import Derived.Test.YtcdibodjkdoknaaPMx4
import Derived.Test.YtcdibodjkdoknaaMgTakem
import Derived.Test.YtcdibodjkdoknaaMgCutm
namespace Go.Proofs.Ytcdibodjkdoknaa.Mg
open Go.RowKit YtcdibodjkdoknaaW.PrintWords YtcdibodjkdoknaaW.PrintLast YtcdibodjkdoknaaW.PrintMore Ytcdibodjkdoknaa.PM Ba Sn Wl
set_option linter.unusedVariables false
set_option linter.unusedSimpArgs false
attribute [local instance 10] Classical.propDecidable

theorem toNat_id {x : Int} (h : U64 x) : ((x.toNat : Nat) : Int) = x := by have := h.1; omega
theorem numsU2 (x y : Int) (r : List UInt8) : numsU [x, y] ++ r = numL x.toNat ++ (numL y.toNat ++ r) := by simp [numsU]
theorem partsR_1 (t : Int) (l : List UInt8) (b : Bool) : partsR 1 t l b = ⟨1, t, (numR l b).1, (numR (numR l b).2.1 (numR l b).2.2).1, 0, false, [], 0, 0, [], ⟨#[]⟩, (numR (numR l b).2.1 (numR l b).2.2).2.1, (numR (numR l b).2.1 (numR l b).2.2).2.2⟩ := by unfold partsR; dsimp only; rw [if_pos rfl]
theorem partsR_2 (t : Int) (l : List UInt8) (b : Bool) : partsR 2 t l b = ⟨2, t, 0, 0, 0, (((numR l b).1 : Int) == 1), [], 0, 0, [], ⟨#[]⟩, (numR l b).2.1, ((numR l b).2.2 || decide (((numR l b).1 : Int) > 1))⟩ := by unfold partsR; dsimp only; rw [if_neg (by decide), if_pos rfl]
theorem partsR_3 (t : Int) (l : List UInt8) (b : Bool) : partsR 3 t l b = (fun x y z e => ⟨3, t, x.1, y.1, z.1, false, e.1, 0, 0, [], ⟨#[]⟩, e.2.1, e.2.2⟩ : (Nat × List UInt8 × Bool) → (Nat × List UInt8 × Bool) → (Nat × List UInt8 × Bool) → (List S67 × List UInt8 × Bool) → Mt) (numR l b) (numR (numR l b).2.1 (numR l b).2.2) (numR (numR (numR l b).2.1 (numR l b).2.2).2.1 (numR (numR l b).2.1 (numR l b).2.2).2.2) (manyM (numR (numR (numR l b).2.1 (numR l b).2.2).2.1 (numR (numR l b).2.1 (numR l b).2.2).2.2).2.1 (numR (numR (numR l b).2.1 (numR l b).2.2).2.1 (numR (numR l b).2.1 (numR l b).2.2).2.2).2.2) := by unfold partsR; dsimp only; rw [if_neg (by decide), if_neg (by decide), if_pos rfl]
theorem partsR_4 (t : Int) (l : List UInt8) (b : Bool) : partsR 4 t l b = (fun x w => ⟨4, t, w.1, 0, 0, ((x.1 : Int) == 1), [], 0, 0, [], ⟨#[]⟩, w.2.1, w.2.2⟩ : (Nat × List UInt8 × Bool) → (Nat × List UInt8 × Bool) → Mt) (numR l b) (numR (numR l b).2.1 ((numR l b).2.2 || decide (((numR l b).1 : Int) > 1))) := by unfold partsR; dsimp only; rw [if_neg (by decide), if_neg (by decide), if_neg (by decide), if_pos rfl]
theorem partsR_5 (t : Int) (l : List UInt8) (b : Bool) : partsR 5 t l b = (fun s u => ⟨5, t, 0, 0, 0, false, [], u.1, u.2.1, u.2.2.1, u.2.2.2.1, s.2.1, (s.2.2 || (u.2.2.2.2 != 0))⟩ : (List UInt8 × List UInt8 × Bool) → (Int × Int × List Int × ByteArray × Int) → Mt) (txtR l b) (decR (txtR l b).1) := by unfold partsR; dsimp only; rw [if_neg (by decide), if_neg (by decide), if_neg (by decide), if_neg (by decide), if_pos rfl]
/-! And back: what was taken, and nothing was bad, was written so. -/
theorem num_from {l : List UInt8} {b : Bool} (h : (numR l b).2.2 = false) : b = false ∧ l = numL (numR l b).1 ++ (numR l b).2.1 := by
  unfold numR at h
  simp only [Bool.or_eq_false_iff, bne_eq_false_iff_eq] at h
  exact ⟨h.1, takeN_inv (by rw [← h.2]; rfl)⟩
theorem num_u64 (l : List UInt8) (b : Bool) : U64 (((numR l b).1 : Nat) : Int) := ⟨by omega, by have := takeN_lt l; show ((takeN l).1 : Int) < _; omega⟩
theorem txt_from {l : List UInt8} {b : Bool} (h : (txtR l b).2.2 = false) : b = false ∧ l = textL (txtR l b).1 ++ (txtR l b).2.1 ∧ (txtR l b).1.length ≤ 65536 := by
  unfold txtR at h
  simp only [Bool.or_eq_false_iff, bne_eq_false_iff_eq] at h
  exact ⟨h.1, takeT_inv (by rw [← h.2]; rfl)⟩
theorem takeE_inv {l : List UInt8} {s : En} (h : takeE l = some s) : l = numL s.i ++ (numL s.t ++ (numL s.q ++ (textL s.d ++ intsL s.ms))) ++ s.r ∧ walOk s.i s.q s.d s.ms ∧ s.i < 18446744073709551616 ∧ s.t < 18446744073709551616 := by
  unfold takeE at h
  by_cases c1 : (takeN l).2.2 = 0
  · rw [if_pos c1] at h
    by_cases c2 : (takeN (takeN l).2.1).2.2 = 0
    · rw [if_pos c2] at h
      by_cases c3 : (takeN (takeN (takeN l).2.1).2.1).2.2 = 0 ∧ (takeN (takeN (takeN l).2.1).2.1).1 < 4
      · rw [if_pos c3] at h
        by_cases c4 : (takeT (takeN (takeN (takeN l).2.1).2.1).2.1).2.2 = 0
        · rw [if_pos c4] at h
          cases hq : takeI (takeT (takeN (takeN (takeN l).2.1).2.1).2.1).2.1 with
          | none => rw [hq] at h; cases h
          | some z =>
            obtain ⟨a, r⟩ := z
            rw [hq] at h
            dsimp only at h
            by_cases hk : walOk (takeN l).1 (takeN (takeN (takeN l).2.1).2.1).1 (takeT (takeN (takeN (takeN l).2.1).2.1).2.1).1 a
            · rw [if_pos hk] at h
              obtain rfl := Option.some.inj h
              refine ⟨?_, hk, takeN_lt l, takeN_lt _⟩
              have i1 := takeN_inv (l := l) (by rw [← c1])
              have i2 := takeN_inv (l := (takeN l).2.1) (by rw [← c2])
              have i3 := takeN_inv (l := (takeN (takeN l).2.1).2.1) (by rw [← c3.1])
              have i4 := (takeT_inv (l := (takeN (takeN (takeN l).2.1).2.1).2.1) (by rw [← c4])).1
              have i5 := (takeI_inv hq).1
              show l = numL (takeN l).1 ++ (numL (takeN (takeN l).2.1).1 ++ (numL (takeN (takeN (takeN l).2.1).2.1).1 ++ (textL (takeT (takeN (takeN (takeN l).2.1).2.1).2.1).1 ++ intsL a))) ++ r
              rw [List.append_assoc, List.append_assoc, List.append_assoc, List.append_assoc, ← i5, ← i4, ← i3, ← i2, ← i1]
            · rw [if_neg hk] at h; cases h
        · rw [if_neg c4] at h; cases h
      · rw [if_neg c3] at h; cases h
    · rw [if_neg c2] at h; cases h
  · rw [if_neg c1] at h; cases h
def entOf (x : Int × Int × Int × ByteArray × List Int × Int) : S67 := ⟨x.1, x.2.1, x.2.2.1, x.2.2.2.1, x.2.2.2.2.1⟩
theorem decE_from {l : List UInt8} (h : (decE l).2.2.2.2.2 = 0) : l = entL (entOf (decE l)) ∧ EntIn (entOf (decE l)) ∧ EntOk (entOf (decE l)) := by
  unfold decE at h ⊢
  cases hq : takeE l with
  | none => rw [hq] at h; exact absurd h (by decide)
  | some s =>
    rw [hq] at h
    dsimp only at h ⊢
    by_cases hr : s.r = []
    · rw [if_pos hr]
      obtain ⟨h1, h2, h3, h4⟩ := takeE_inv hq
      have hk := walOk_mem h2
      refine ⟨?_, ⟨⟨by show 0 ≤ (s.i : Int); omega, by show (s.i : Int) < _; omega⟩, ⟨by show 0 ≤ (s.t : Int); omega, by show (s.t : Int) < _; omega⟩, ⟨by show 0 ≤ (s.q : Int); omega, by show (s.q : Int) < _; omega⟩⟩, ?_⟩
      · rw [h1, hr, List.append_nil]
        show _ = numL ((s.i : Int)).toNat ++ (numL ((s.t : Int)).toNat ++ (numL ((s.q : Int)).toNat ++ (textL (ba s.d).toList ++ intsL s.ms)))
        rw [ba_list]
        rfl
      · show walOk (s.i : Int) (s.q : Int) (ba s.d).toList s.ms
        rw [ba_list]
        exact h2
    · rw [if_neg hr] at h
      exact absurd h (by show ¬ ((4 : Int) = 0); decide)
theorem entR_from {l : List UInt8} {b : Bool} (h : (entR l b).2.2 = false) : b = false ∧ l = textL (entL (entR l b).1) ++ (entR l b).2.1 ∧ EntIn (entR l b).1 ∧ EntOk (entR l b).1 := by
  unfold entR at h
  simp only [Bool.or_eq_false_iff, bne_eq_false_iff_eq] at h
  obtain ⟨h1, h2, _⟩ := txt_from h.1
  obtain ⟨h4, h5, h6⟩ := decE_from h.2
  refine ⟨h1, ?_, h5, h6⟩
  show l = textL (entL (entOf (decE (txtR l b).1))) ++ (txtR l b).2.1
  rw [← h4, ← h2]
theorem manyR_from : ∀ (n : Nat) (l : List UInt8) (b : Bool) (acc : List S67), (manyR n l b acc).2.2 = false → b = false ∧ ∃ q, (manyR n l b acc).1 = acc ++ q ∧ q.length = n ∧ l = entsL q ++ (manyR n l b acc).2.1 ∧ ∀ e ∈ q, EntIn e ∧ EntOk e
  | 0, l, b, acc, h => ⟨h, [], by rw [List.append_nil]; rfl, rfl, rfl, fun e he => by cases he⟩
  | n + 1, l, b, acc, h => by
    rw [manyR] at h ⊢
    by_cases c : b = true
    · rw [if_pos c] at h
      exact absurd c (by rw [show b = false from h]; decide)
    · rw [if_neg c] at h ⊢
      obtain ⟨hb, q, h1, h2, h3, h4⟩ := manyR_from n _ _ _ h
      obtain ⟨_, g2, g3, g4⟩ := entR_from hb
      refine ⟨Bool.eq_false_iff.mpr c, (entR l b).1 :: q, by rw [h1, List.append_assoc]; rfl, by rw [List.length_cons, h2], ?_, fun e he => ?_⟩
      · rw [entsL, List.append_assoc, ← h3]
        exact g2
      · rcases List.mem_cons.1 he with rfl | he
        · exact ⟨g3, g4⟩
        · exact h4 e he
theorem manyM_from {l : List UInt8} {b : Bool} (h : (manyM l b).2.2 = false) : b = false ∧ (manyM l b).1.length ≤ 8 ∧ l = numL (manyM l b).1.length ++ (entsL (manyM l b).1 ++ (manyM l b).2.1) ∧ ∀ e ∈ (manyM l b).1, EntIn e ∧ EntOk e := by
  unfold manyM at h ⊢
  by_cases c : (numR l b).1 ≤ 8
  · rw [if_pos c] at h ⊢
    obtain ⟨hb, q, h1, h2, h3, h4⟩ := manyR_from _ _ _ _ h
    obtain ⟨g1, g2⟩ := num_from hb
    rw [List.nil_append] at h1
    rw [h1]
    refine ⟨g1, by omega, ?_, h4⟩
    rw [h2, ← h3]
    exact g2
  · rw [if_neg c] at h
    cases h
theorem decR_from {l : List UInt8} (h : (decR l).2.2.2.2 = 0) : l = snapL (decR l).1.toNat (decR l).2.1.toNat (decR l).2.2.1 (decR l).2.2.2.1.toList ∧ U64 (decR l).1 ∧ U64 (decR l).2.1 ∧ snapOk (decR l).1 (decR l).2.1 (decR l).2.2.1 (decR l).2.2.2.1.toList := by
  unfold decR at h ⊢
  cases hq : takeS l with
  | none => rw [hq] at h; exact absurd h (by decide)
  | some s =>
    rw [hq] at h
    dsimp only at h ⊢
    by_cases hr : s.r = []
    · rw [if_pos hr]
      obtain ⟨h1, h2, h3, h4⟩ := takeS_inv hq
      refine ⟨?_, ⟨by show 0 ≤ (s.i : Int); omega, by show (s.i : Int) < _; omega⟩, ⟨by show 0 ≤ (s.t : Int); omega, by show (s.t : Int) < _; omega⟩, ?_⟩
      · show l = snapL ((s.i : Int)).toNat ((s.t : Int)).toNat s.ms (ba s.d).toList
        rw [ba_list, h1, hr, List.append_nil]
        rfl
      · show snapOk (s.i : Int) (s.t : Int) s.ms (ba s.d).toList
        rw [ba_list]
        exact h2
    · rw [if_neg hr] at h
      exact absurd h (by show ¬ ((4 : Int) = 0); decide)
theorem kindR_from {n : Nat} (h : 0 < kindR n ∧ kindR n < 6) : (n : Int) = kindR n := by
  unfold kindR at h ⊢
  split at h <;> omega
structure Took (m : Mt) : Prop where
  ut : U64 m.t
  ui : U64 m.i
  ult : U64 m.lt
  uc : U64 m.c
  usi : U64 m.si
  ust : U64 m.st
  ein : ∀ e ∈ m.l, EntIn e
  eok : ∀ e ∈ m.l, EntOk e
  few : m.l.length ≤ 8
  snap : m.q = 5 → snapOk m.si m.st m.ms m.d.toList
theorem u64_0 : U64 0 := ⟨by decide, by decide⟩
theorem flag_num {n : Nat} (h : decide ((n : Int) > 1) = false) : n = (flagI ((n : Int) == 1)).toNat := by
  have h1 := of_decide_eq_false h
  have h2 : n = 0 ∨ n = 1 := by omega
  rcases h2 with rfl | rfl <;> decide
theorem partsR_q (q t : Int) (l : List UInt8) (b : Bool) : (partsR q t l b).q = q ∧ (partsR q t l b).t = t := by
  unfold partsR
  dsimp only
  repeat' split
  all_goals (constructor <;> first | rfl | (dsimp only; omega))
theorem parts_from {q t : Int} {l : List UInt8} {b : Bool} (hq : 0 < q ∧ q < 6) (ht : U64 t) (hb : (partsR q t l b).b = false) (hr : (partsR q t l b).r = []) : b = false ∧ Took (partsR q t l b) ∧ l = tailL q (partsR q t l b).i (partsR q t l b).lt (partsR q t l b).c (partsR q t l b).ok (partsR q t l b).l (partsR q t l b).si (partsR q t l b).st (partsR q t l b).ms (partsR q t l b).d := by
  unfold tailL
  have hno : ∀ e ∈ ([] : List S67), EntIn e := fun e he => by cases he
  have hno2 : ∀ e ∈ ([] : List S67), EntOk e := fun e he => by cases he
  by_cases c1 : q = 1
  · subst c1
    rw [if_pos rfl]
    rw [partsR_1] at hb hr ⊢
    dsimp only at hb hr ⊢
    obtain ⟨h1, h2⟩ := num_from hb
    obtain ⟨h3, h4⟩ := num_from h1
    refine ⟨h3, ⟨ht, num_u64 _ _, num_u64 _ _, u64_0, u64_0, u64_0, hno, hno2, by simp, fun h => absurd (show ((1 : Int) = 5) from h) (by decide)⟩, ?_⟩
    rw [hr] at h2
    exact h4.trans (congrArg _ h2)
  rw [if_neg c1]
  by_cases c2 : q = 2
  · subst c2
    rw [if_pos rfl]
    rw [partsR_2] at hb hr ⊢
    dsimp only at hb hr ⊢
    simp only [Bool.or_eq_false_iff] at hb
    obtain ⟨h3, h4⟩ := num_from hb.1
    refine ⟨h3, ⟨ht, u64_0, u64_0, u64_0, u64_0, u64_0, hno, hno2, by simp, fun h => absurd (show ((2 : Int) = 5) from h) (by decide)⟩, ?_⟩
    rw [hr] at h4
    show l = numL (flagI ((((numR l b).1 : Nat) : Int) == 1)).toNat ++ []
    rw [← flag_num hb.2]
    exact h4
  rw [if_neg c2]
  by_cases c3 : q = 3
  · subst c3
    rw [if_pos rfl]
    rw [partsR_3] at hb hr ⊢
    dsimp only at hb hr ⊢
    obtain ⟨g1, g2, g3, g4⟩ := manyM_from hb
    obtain ⟨h1, h2⟩ := num_from g1
    obtain ⟨h3, h4⟩ := num_from h1
    obtain ⟨h5, h6⟩ := num_from h3
    refine ⟨h5, ⟨ht, num_u64 _ _, num_u64 _ _, num_u64 _ _, u64_0, u64_0, fun e he => (g4 e he).1, fun e he => (g4 e he).2, g2, fun h => absurd (show ((3 : Int) = 5) from h) (by decide)⟩, ?_⟩
    rw [hr, List.append_nil] at g3
    refine (h6.trans (congrArg _ (h4.trans (congrArg _ (h2.trans (congrArg _ g3)))))).trans ?_
    simp [numsU]
  rw [if_neg c3]
  by_cases c4 : q = 4
  · subst c4
    rw [if_pos rfl]
    rw [partsR_4] at hb hr ⊢
    dsimp only at hb hr ⊢
    obtain ⟨h1, h2⟩ := num_from hb
    simp only [Bool.or_eq_false_iff] at h1
    obtain ⟨h3, h4⟩ := num_from h1.1
    refine ⟨h3, ⟨ht, num_u64 _ _, u64_0, u64_0, u64_0, u64_0, hno, hno2, by simp, fun h => absurd (show ((4 : Int) = 5) from h) (by decide)⟩, ?_⟩
    rw [hr] at h2
    refine h4.trans ?_
    show numL _ ++ (numR l b).2.1 = numL (flagI ((((numR l b).1 : Nat) : Int) == 1)).toNat ++ (numL ((numR (numR l b).2.1 ((numR l b).2.2 || decide ((((numR l b).1 : Nat) : Int) > 1))).1 : Int).toNat ++ [])
    rw [← flag_num h1.2]
    exact congrArg _ h2
  rw [if_neg c4]
  have c5 : q = 5 := by omega
  subst c5
  rw [if_pos rfl]
  rw [partsR_5] at hb hr ⊢
  dsimp only at hb hr ⊢
  simp only [Bool.or_eq_false_iff, bne_eq_false_iff_eq] at hb
  obtain ⟨h1, h2, _⟩ := txt_from hb.1
  obtain ⟨h4, h5, h6, h7⟩ := decR_from hb.2
  refine ⟨h1, ⟨ht, u64_0, u64_0, u64_0, h5, h6, hno, hno2, by simp, fun _ => h7⟩, ?_⟩
  rw [hr, List.append_nil] at h2
  rw [← h4]
  exact h2
theorem msgR_from {l : List UInt8} (hq : 0 < (msgR l false).q ∧ (msgR l false).q < 6) (hb : (msgR l false).b = false) (hr : (msgR l false).r = []) : Took (msgR l false) ∧ l = msgL (msgR l false).q (msgR l false).t (msgR l false).i (msgR l false).lt (msgR l false).c (msgR l false).ok (msgR l false).l (msgR l false).si (msgR l false).st (msgR l false).ms (msgR l false).d := by
  unfold msgR at hq hb hr ⊢
  rw [(partsR_q _ _ _ _).1] at hq
  obtain ⟨h1, h2, h3⟩ := parts_from hq (num_u64 _ _) hb hr
  obtain ⟨g1, g2⟩ := num_from h1
  obtain ⟨g3, g4⟩ := num_from g1
  refine ⟨h2, ?_⟩
  unfold msgL
  rw [(partsR_q _ _ _ _).1, (partsR_q _ _ _ _).2, numsU2, ← h3]
  have hk := kindR_from hq
  rw [← hk]
  refine g4.trans ?_
  exact congrArg _ g2
end Go.Proofs.Ytcdibodjkdoknaa.Mg
