/- A frame of which one byte is another one is not taken as a payload of the same length. No condition of its own. -/
import Derived.Test.YtcdibodjkdoknaaPMx1
import Derived.Test.YtcdibodjkdoknaaPackLawm
namespace Go.Proofs.Ytcdibodjkdoknaa.Ba
open Go.RowKit Go.Proofs.YtcdibodjkdoknaaW.PrintWords Go.Proofs.YtcdibodjkdoknaaW.PrintLast Go.Proofs.YtcdibodjkdoknaaW.PrintMore Go.Proofs.Ytcdibodjkdoknaa.PM
set_option linter.unusedVariables false

theorem xor_cancel {a b c : Nat} (h : a ^^^ c = b ^^^ c) : a = b := by
  have h2 : (a ^^^ c) ^^^ c = (b ^^^ c) ^^^ c := by rw [h]
  rwa [Nat.xor_assoc, Nat.xor_assoc, Nat.xor_self, Nat.xor_zero, Nat.xor_zero] at h2
theorem xor_cancel_l {a b c : Nat} (h : c ^^^ a = c ^^^ b) : a = b := by
  rw [Nat.xor_comm c a, Nat.xor_comm c b] at h
  exact xor_cancel h
theorem step_top (c : Nat) (h : c < 65536) : (step c) % 2 = c / 32768 := by
  have e : (step c).testBit 0 = (c / 32768 == 1) := by
    unfold step
    rw [Nat.testBit_xor, Nat.testBit_zero, Nat.testBit_zero]
    have h1 : ((c * 2) % 65536) % 2 = 0 := by omega
    have h2 : (4129 * (c / 32768)) % 2 = c / 32768 := by omega
    rw [h1, h2]
    have : c / 32768 = 0 ∨ c / 32768 = 1 := by omega
    rcases this with e | e <;> rw [e] <;> rfl
  rw [Nat.testBit_zero] at e
  have : c / 32768 = 0 ∨ c / 32768 = 1 := by omega
  rcases this with h0 | h0
  · rw [h0] at e ⊢
    have : ¬ (step c % 2 = 1) := by
      intro h1
      rw [h1] at e
      exact absurd e (by decide)
    omega
  · rw [h0] at e ⊢
    have : decide (step c % 2 = 1) = true := by rw [e]; rfl
    exact of_decide_eq_true this
theorem step_inj {c d : Nat} (hc : c < 65536) (hd : d < 65536) (h : step c = step d) : c = d := by
  have ht : c / 32768 = d / 32768 := by rw [← step_top c hc, ← step_top d hd, h]
  unfold step at h
  rw [ht] at h
  have := xor_cancel h
  omega
theorem steps_inj : ∀ (n : Nat) {c d : Nat}, c < 65536 → d < 65536 → steps n c = steps n d → c = d
  | 0, _, _, _, _, h => h
  | n + 1, _, _, hc, hd, h => step_inj hc hd (steps_inj n (step_lt _ hc) (step_lt _ hd) h)
theorem byte_in (c : Nat) (b : UInt8) (h : c < 65536) : c ^^^ (b.toNat * 256) < 65536 := Nat.xor_lt_two_pow (n := 16) h (by have := u8_lt b; omega)
theorem byteS_inj {c d : Nat} (b : UInt8) (hc : c < 65536) (hd : d < 65536) (h : byteS c b = byteS d b) : c = d :=
  xor_cancel (steps_inj 8 (byte_in c b hc) (byte_in d b hd) h)
theorem byteS_other {c : Nat} {a b : UInt8} (hc : c < 65536) (h : byteS c a = byteS c b) : a = b := by
  have h1 := xor_cancel_l (steps_inj 8 (byte_in c a hc) (byte_in c b hc) h)
  exact UInt8.toNat_inj.mp (by omega)
theorem crcFrom_inj : ∀ (l : List UInt8) {c d : Nat}, c < 65536 → d < 65536 → crcFrom c l = crcFrom d l → c = d
  | [], _, _, _, _, h => h
  | b :: l, _, _, hc, hd, h => byteS_inj b hc hd (crcFrom_inj l (byteS_lt _ b hc) (byteS_lt _ b hd) h)
theorem crcFrom_app (c : Nat) (l m : List UInt8) : crcFrom c (l ++ m) = crcFrom (crcFrom c l) m := List.foldl_append
theorem crc_other {A B : List UInt8} {x y : UInt8} (h : crc (A ++ x :: B) = crc (A ++ y :: B)) : x = y := by
  unfold crc at h
  rw [crcFrom_app, crcFrom_app] at h
  have hA := crcFrom_lt A 65535 (by decide)
  exact byteS_other hA (crcFrom_inj B (byteS_lt _ x hA) (byteS_lt _ y hA) h)
theorem be2_inj {a b : Nat} (ha : a < 65536) (hb : b < 65536) (h : be 2 a = be 2 b) : a = b := by
  have h1 := val_be 2 a
  rw [h, val_be] at h1
  omega
/-- What is taken was there. -/
theorem takeF_inv {l : List UInt8} (h : (takeF l).2.2 = 0) : l = frameL (takeF l).1 ++ (takeF l).2.1 ∧ (takeF l).1.length ≤ 65536 := by
  unfold takeF at h ⊢
  by_cases h4 : l.length < 4
  · rw [if_pos h4] at h; cases h
  · rw [if_neg h4] at h ⊢
    by_cases hn : 65536 < val (l.take 4)
    · rw [if_pos hn] at h; cases h
    · rw [if_neg hn] at h ⊢
      by_cases hl : l.length < val (l.take 4) + 6
      · rw [if_pos hl] at h; cases h
      · rw [if_neg hl] at h ⊢
        by_cases hc : be 2 (crc (l.take 4 ++ (l.drop 6).take (val (l.take 4)))) = (l.drop 4).take 2
        · rw [if_pos hc]
          refine ⟨?_, ?_⟩
          · have := (frame_cut l _ (by omega) rfl (by omega)).2 hc
            show l = frameL ((l.drop 6).take (val (l.take 4))) ++ l.drop (val (l.take 4) + 6)
            rw [this, List.take_append_drop]
          · show ((l.drop 6).take (val (l.take 4))).length ≤ 65536
            rw [List.length_take]; omega
        · rw [if_neg hc] at h; cases h
theorem at_mid (A B : List UInt8) (x : UInt8) : (A ++ x :: B)[A.length]? = some x := by
  rw [List.getElem?_append_right (Nat.le_refl _), Nat.sub_self]; rfl
/-- Two frames of payloads of one length that part in one byte alone do not part. -/
theorem frame_other {p q A B : List UInt8} {x y : UInt8} (hl : p.length = q.length) (hp : frameL p = A ++ x :: B) (hq : frameL q = A ++ y :: B) : x = y := by
  have l4 := be_length 4 p.length
  have l2 := fun n => be_length 2 n
  have head : ∀ r : List UInt8, (frameL r).take 6 = be 4 r.length ++ be 2 (crc (be 4 r.length ++ r)) := fun r => by
    unfold frameL
    exact List.take_left' (by rw [List.length_append, be_length, be_length])
  have tail : ∀ r : List UInt8, (frameL r).drop 6 = r := fun r => by
    unfold frameL
    exact List.drop_left' (by rw [List.length_append, be_length, be_length])
  have four : ∀ r : List UInt8, (frameL r).take 4 = be 4 r.length := fun r => by
    unfold frameL
    rw [List.append_assoc]
    exact List.take_left' (be_length _ _)
  rcases Nat.lt_or_ge A.length 4 with h4 | h4
  · have e1 : ((frameL p).take 4)[A.length]? = some x := by rw [List.getElem?_take_of_lt h4, hp, at_mid]
    have e2 : ((frameL q).take 4)[A.length]? = some y := by rw [List.getElem?_take_of_lt h4, hq, at_mid]
    rw [four, hl] at e1
    rw [four, e1] at e2
    exact Option.some.inj e2
  · rcases Nat.lt_or_ge A.length 6 with h6 | h6
    · have e : p = q := by
        have e1 := tail p
        have e2 := tail q
        rw [hp, show A ++ x :: B = (A ++ [x]) ++ B by rw [List.append_assoc]; rfl, List.drop_append, List.drop_eq_nil_of_le (by rw [List.length_append, List.length_singleton]; omega)] at e1
        rw [hq, show A ++ y :: B = (A ++ [y]) ++ B by rw [List.append_assoc]; rfl, List.drop_append, List.drop_eq_nil_of_le (by rw [List.length_append, List.length_singleton]; omega)] at e2
        rw [List.length_append, List.length_singleton] at e1 e2
        rw [← e1, ← e2]
      have h : A ++ x :: B = A ++ y :: B := by rw [← hp, ← hq, e]
      exact (List.cons.inj (List.append_cancel_left h)).1
    · have e1 : p = A.drop 6 ++ x :: B := by rw [← tail p, hp, List.drop_append_of_le_length h6]
      have e2 : q = A.drop 6 ++ y :: B := by rw [← tail q, hq, List.drop_append_of_le_length h6]
      have e3 : be 4 p.length ++ be 2 (crc (be 4 p.length ++ p)) = be 4 q.length ++ be 2 (crc (be 4 q.length ++ q)) := by
        rw [← head p, ← head q, hp, hq, List.take_append_of_le_length h6, List.take_append_of_le_length h6]
      rw [hl] at e3
      have e4 := be2_inj (crc_lt _) (crc_lt _) (List.append_cancel_left e3)
      rw [e1, e2, ← List.append_assoc, ← List.append_assoc] at e4
      exact crc_other e4
theorem frame_turned {p A B : List UInt8} {x y : UInt8} (hp : frameL p = A ++ x :: B) (hxy : x ≠ y) (h : (takeF (A ++ y :: B)).2.2 = 0) : (takeF (A ++ y :: B)).1.length ≠ p.length := by
  intro hlen
  obtain ⟨e, _⟩ := takeF_inv h
  generalize takeF (A ++ y :: B) = z at e hlen
  have hrest : z.2.1 = [] := by
    have h1 := congrArg List.length e
    have h2 := congrArg List.length hp
    simp only [List.length_append, List.length_cons, frameL_length] at h1 h2
    exact List.eq_nil_of_length_eq_zero (by omega)
  rw [hrest, List.append_nil] at e
  exact hxy (frame_other hlen.symm hp e.symm)
end Go.Proofs.Ytcdibodjkdoknaa.Ba
