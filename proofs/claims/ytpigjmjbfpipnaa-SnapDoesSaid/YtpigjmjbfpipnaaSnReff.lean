/- Plain laws, joined. -/
import Derived.Test.YtpigjmjbfpipnaaPFx3
import Derived.Test.YtpigjmjbfpipnaaPFx21
import Derived.Test.YtpigjmjbfpipnaaPFx9
import Derived.Test.YtpigjmjbfpipnaaPFx15
import Derived.Test.YtpigjmjbfpipnaaDkSamef
import Derived.Test.YtpigjmjbfpipnaaPFx4
import Derived.Test.YtpigjmjbfpipnaaQmReff
import Derived.Test.YtpigjmjbfpipnaaPFx12
import Derived.Test.YtpigjmjbfpipnaaPFx22
namespace Go.Proofs.Ytpigjmjbfpipnaa.Sn
open Go.RowKit YtpigjmjbfpipnaaW.PrintWords YtpigjmjbfpipnaaW.PrintLast YtpigjmjbfpipnaaW.PrintMore Ytpigjmjbfpipnaa.PF Ba
set_option linter.unusedVariables false
theorem up1 {j : Nat} (hb : j < 4611686018427387904) : wrap64 ((j : Int) + 1) = ((j + 1 : Nat) : Int) := by rw [wrap64_id (by omega) (by omega)]; omega
theorem rd_app (P : List Int) (x : Int) (R : List Int) : rd (P ++ x :: R) (P.length : Int) = x := by
  unfold rd
  rw [Int.toNat_natCast, List.getD_eq_getElem?_getD, List.getElem?_append_right (Nat.le_refl _), Nat.sub_self]
  rfl
theorem app_snoc (P : List Int) (x : Int) (R : List Int) : P ++ x :: R = (P ++ [x]) ++ R := by rw [List.append_assoc]; rfl

def numsL : List Int → List UInt8
  | [] => []
  | m :: r => numL m.toNat ++ numsL r
def intsL (l : List Int) : List UInt8 := numL l.length ++ numsL l
theorem numsL_len : ∀ l : List Int, (numsL l).length ≤ 9 * l.length
  | [] => Nat.le_refl _
  | m :: r => by
    have h1 := numsL_len r
    have h2 := nl_le m.toNat
    rw [numsL, List.length_append, numL_length, List.length_cons]
    omega
theorem Ints_l0 (l : List Int) (h0 : ∀ m ∈ l, 0 ≤ m ∧ m ≤ 7) (hl : l.length ≤ 1000) : ∀ (R P : List Int) (acc : List UInt8), l = P ++ R → acc.length ≤ 9 + 9 * P.length → Ev (fun k => wal_Ints.l0 k (ba acc) l (l.length : Int) (P.length : Int)) (ba (acc ++ numsL R))
  | [], P, acc, e, ha => by
    refine Ev.step (fun k => rfl) ?_
    simp only [wal_Ints.l0]
    rw [numsL, List.append_nil]
    exact Ev.neg (by rw [e, List.append_nil]; omega) (Ev.now _)
  | m :: R, P, acc, e, ha => by
    have hlen : l.length = P.length + (R.length + 1) := by rw [e, List.length_append, List.length_cons]
    have hr : rd l (P.length : Int) = m := by rw [e]; exact rd_app P m R
    have hm := h0 m (by rw [e]; simp)
    have hu : IntKind.u64.wrap m = ((m.toNat : Nat) : Int) := by rw [u64_id hm.1 (by omega)]; omega
    have h9 := nl_le m.toNat
    refine Ev.step (fun k => rfl) ?_
    simp only [wal_Ints.l0]
    rw [hr, hu, up1 (by omega)]
    refine Ev.pos (by omega) (Ev.pos (by omega) (Ev.pos (by omega) (Ev.bind (Number_ev m.toNat (by omega)) (Ev.pos (by rw [ba_size, ba_size, numL_length]; omega) ?_))))
    rw [ba_append]
    have := Ints_l0 l h0 hl R (P ++ [m]) (acc ++ numL m.toNat) (by rw [e, app_snoc]) (by rw [List.length_append, List.length_append, numL_length, List.length_singleton]; omega)
    rw [List.length_append, List.length_singleton, List.append_assoc] at this
    exact this
theorem Ints_ev (l : List Int) (h0 : ∀ m ∈ l, 0 ≤ m ∧ m ≤ 7) (hl : l.length ≤ 1000) : Ev (fun k => wal_Ints.f k l) (ba (intsL l)) := by
  unfold wal_Ints.f
  have h9 := nl_le l.length
  rw [u64_id (by omega) (by omega)]
  refine Ev.bind (Number_ev l.length (by omega)) (Ev.pos (by rw [ba_nil, ba_size, ba_size, numL_length]; simp; omega) ?_)
  rw [ba_nil, ba_append, List.nil_append]
  exact Ints_l0 l h0 hl l [] (numL l.length) rfl (by rw [numL_length]; omega)
theorem RInts_l0 (l : List Int) (h0 : ∀ m ∈ l, 0 ≤ m ∧ m ≤ 7) (hl : l.length ≤ 1000) : ∀ (R P : List Int) (acc : List UInt8), l = P ++ R → acc.length ≤ 9 + 9 * P.length → Ev (fun k => gafferref03_Ints.l0 k (ba acc) l (l.length : Int) (P.length : Int)) (ba (acc ++ numsL R))
  | [], P, acc, e, ha => by
    refine Ev.step (fun k => rfl) ?_
    simp only [gafferref03_Ints.l0]
    rw [numsL, List.append_nil]
    exact Ev.neg (by rw [e, List.append_nil]; omega) (Ev.now _)
  | m :: R, P, acc, e, ha => by
    have hlen : l.length = P.length + (R.length + 1) := by rw [e, List.length_append, List.length_cons]
    have hr : rd l (P.length : Int) = m := by rw [e]; exact rd_app P m R
    have hm := h0 m (by rw [e]; simp)
    have hu : IntKind.u64.wrap m = ((m.toNat : Nat) : Int) := by rw [u64_id hm.1 (by omega)]; omega
    have h9 := nl_le m.toNat
    refine Ev.step (fun k => rfl) ?_
    simp only [gafferref03_Ints.l0]
    rw [hr, hu, up1 (by omega)]
    refine Ev.pos (by omega) (Ev.pos (by omega) (Ev.pos (by omega) (Ev.bind (RNumber_ev m.toNat (by omega)) (Ev.pos (by rw [ba_size, ba_size, numL_length]; omega) ?_))))
    rw [ba_append]
    have := RInts_l0 l h0 hl R (P ++ [m]) (acc ++ numL m.toNat) (by rw [e, app_snoc]) (by rw [List.length_append, List.length_append, numL_length, List.length_singleton]; omega)
    rw [List.length_append, List.length_singleton, List.append_assoc] at this
    exact this
theorem RInts_ev (l : List Int) (h0 : ∀ m ∈ l, 0 ≤ m ∧ m ≤ 7) (hl : l.length ≤ 1000) : Ev (fun k => gafferref03_Ints.f k l) (ba (intsL l)) := by
  unfold gafferref03_Ints.f
  have h9 := nl_le l.length
  rw [u64_id (by omega) (by omega)]
  refine Ev.bind (RNumber_ev l.length (by omega)) ?_
  exact RInts_l0 l h0 hl l [] (numL l.length) rfl (by rw [numL_length]; omega)

/-! Taking -/
def numR (l : List UInt8) (b : Bool) : Nat × List UInt8 × Bool := ((takeN l).1, (takeN l).2.1, b || (takeN l).2.2 != 0)
def txtR (l : List UInt8) (b : Bool) : List UInt8 × List UInt8 × Bool := ((takeT l).1, (takeT l).2.1, b || (takeT l).2.2 != 0)
theorem errB (n : Nat) : ((n : Int) != 0) = (n != 0) := by
  cases n with
  | zero => rfl
  | succ n => rfl
theorem TNumber_ev (l : List UInt8) (b : Bool) (hl : l.length ≤ 4611686018427387904) : Ev (fun k => wal_Taker_Number.f k (ba l) b) (((numR l b).1 : Int), ba (numR l b).2.1, (numR l b).2.2) := by
  unfold wal_Taker_Number.f
  refine Ev.bind (TakeNumber_ev l hl) ?_
  cases b with
  | true => exact Ev.pos rfl (Ev.now _)
  | false =>
    refine Ev.neg (by simp) ?_
    show Ev (fun _ => some (((takeN l).1 : Int), ba (takeN l).2.1, ((takeN l).2.2 : Int) != 0)) _
    rw [errB]
    exact Ev.now _
theorem TText_ev (l : List UInt8) (b : Bool) (hl : l.length ≤ 4611686018427387904) : Ev (fun k => wal_Taker_Text.f k (ba l) b) (ba (txtR l b).1, ba (txtR l b).2.1, (txtR l b).2.2) := by
  unfold wal_Taker_Text.f
  refine Ev.bind (TakeText_ev l hl) ?_
  cases b with
  | true => exact Ev.pos rfl (Ev.now _)
  | false =>
    refine Ev.neg (by simp) ?_
    show Ev (fun _ => some (ba (takeT l).1, ba (takeT l).2.1, ((takeT l).2.2 : Int) != 0)) _
    rw [errB]
    exact Ev.now _
def takeIs : Nat → List Int → List UInt8 → Option (List Int × List UInt8)
  | 0, acc, l => some (acc, l)
  | n + 1, acc, l => if (takeN l).2.2 = 0 ∧ (takeN l).1 ≤ 7 then takeIs n (acc ++ [((takeN l).1 : Int)]) (takeN l).2.1 else none
def takeI (l : List UInt8) : Option (List Int × List UInt8) := if (takeN l).2.2 = 0 ∧ (takeN l).1 ≤ 7 then takeIs (takeN l).1 [] (takeN l).2.1 else none
def okI (x : List Int × List UInt8 × Bool) (o : Option (List Int × List UInt8)) : Prop := match o with | some (a, r) => x = (a, r, false) | none => x.2.2 = true
theorem loop_bad (n : Nat) (acc : List Int) (l : List UInt8) : Ev (fun k => wal_Taker_Ints.l0 k acc (n : Int) (ba l) true) (acc, ba l, true) := by
  refine Ev.step (fun k => rfl) ?_
  simp only [wal_Taker_Ints.l0]
  cases n with
  | zero => exact Ev.neg (by omega) (Ev.now _)
  | succ n => exact Ev.pos (by omega) (Ev.pos (by simp) (Ev.now _))
theorem TInts_l0 : ∀ (n : Nat) (acc : List Int) (l : List UInt8), n ≤ 7 → acc.length + n ≤ 7 → l.length ≤ 4611686018427387904 → ∃ x : List Int × List UInt8 × Bool, Ev (fun k => wal_Taker_Ints.l0 k acc (n : Int) (ba l) false) (x.1, ba x.2.1, x.2.2) ∧ x.2.1.length ≤ l.length ∧ okI x (takeIs n acc l)
  | 0, acc, l, _, _, hl => by
    refine ⟨(acc, l, false), Ev.step (fun k => rfl) ?_, Nat.le_refl _, rfl⟩
    simp only [wal_Taker_Ints.l0]
    exact Ev.neg (by omega) (Ev.now _)
  | n + 1, acc, l, h7, ha, hl => by
    have hlen := takeN_len l
    have hlt := takeN_lt l
    have hu : IntKind.u64.wrap (((n + 1 : Nat) : Int) - 1) = (n : Int) := by rw [u64_id (by omega) (by omega)]; omega
    have hN := TNumber_ev l false hl
    by_cases c : (takeN l).2.2 = 0
    · have hb : (numR l false).2.2 = false := by unfold numR; rw [c]; rfl
      by_cases c7 : (takeN l).1 ≤ 7
      · obtain ⟨x, hx, hx2, hx3⟩ := TInts_l0 n (acc ++ [((takeN l).1 : Int)]) (takeN l).2.1 (by omega) (by rw [List.length_append, List.length_singleton]; omega) (by omega)
        refine ⟨x, Ev.step (fun k => rfl) ?_, by omega, ?_⟩
        · simp only [wal_Taker_Ints.l0]
          rw [hu]
          refine Ev.pos (by omega) (Ev.neg (by simp) (Ev.bind hN ?_))
          show Ev (fun k => if (numR l false).2.2 = true then _ else (if acc.length < 17592186044416 then wal_Taker_Ints.l0 k (acc ++ [wrap64 ((takeN l).1 : Int)]) (n : Int) (ba (takeN l).2.1) (decide (((takeN l).1 : Int) > 7)) else none)) _
          have hw : wrap64 ((takeN l).1 : Int) = ((takeN l).1 : Int) := wrap64_id (by omega) (by omega)
          rw [hb, hw, decide_eq_false (by omega)]
          exact Ev.neg (by simp) (Ev.pos (by omega) hx)
        · rw [takeIs, if_pos ⟨c, c7⟩]; exact hx3
      · refine ⟨(acc ++ [wrap64 ((takeN l).1 : Int)], (takeN l).2.1, true), Ev.step (fun k => rfl) ?_, hlen, ?_⟩
        · simp only [wal_Taker_Ints.l0]
          rw [hu]
          refine Ev.pos (by omega) (Ev.neg (by simp) (Ev.bind hN ?_))
          show Ev (fun k => if (numR l false).2.2 = true then _ else (if acc.length < 17592186044416 then wal_Taker_Ints.l0 k (acc ++ [wrap64 ((takeN l).1 : Int)]) (n : Int) (ba (takeN l).2.1) (decide (((takeN l).1 : Int) > 7)) else none)) _
          rw [hb, decide_eq_true (by omega)]
          exact Ev.neg (by simp) (Ev.pos (by omega) (loop_bad n _ _))
        · rw [takeIs, if_neg (fun h => c7 h.2)]; rfl
    · have hb : (numR l false).2.2 = true := by unfold numR; simpa using c
      refine ⟨(acc ++ [wrap64 ((takeN l).1 : Int)], (takeN l).2.1, true), Ev.step (fun k => rfl) ?_, hlen, ?_⟩
      · simp only [wal_Taker_Ints.l0]
        rw [hu]
        refine Ev.pos (by omega) (Ev.neg (by simp) (Ev.bind hN ?_))
        show Ev (fun k => if (numR l false).2.2 = true then (if acc.length < 17592186044416 then wal_Taker_Ints.l0 k (acc ++ [wrap64 ((takeN l).1 : Int)]) (n : Int) (ba (takeN l).2.1) true else none) else _) _
        rw [hb]
        exact Ev.pos rfl (Ev.pos (by omega) (loop_bad n _ _))
      · rw [takeIs, if_neg (fun h => c h.1)]; rfl
theorem TInts_ev (l : List UInt8) (b : Bool) (hl : l.length ≤ 4611686018427387904) : ∃ x : List Int × List UInt8 × Bool, Ev (fun k => wal_Taker_Ints.f k (ba l) b) (x.1, ba x.2.1, x.2.2) ∧ x.2.1.length ≤ l.length ∧ (b = true → x.2.2 = true) ∧ (b = false → okI x (takeI l)) := by
  have hlen := takeN_len l
  have hlt := takeN_lt l
  have hN := TNumber_ev l b hl
  have hj : ∀ (n : Nat) (r : List UInt8), Ev (fun k => wal_Taker_Ints.j0 k ([] : List Int) (n : Int) (ba r) true) ([], ba r, true) := fun n r => by
    refine Ev.step (fun k => rfl) ?_
    simp only [wal_Taker_Ints.j0]
    exact loop_bad n [] r
  by_cases c : (numR l b).2.2 = true
  · refine ⟨([], (takeN l).2.1, true), ?_, hlen, fun _ => rfl, fun hb => ?_⟩
    · unfold wal_Taker_Ints.f
      refine Ev.bind hN ?_
      exact Ev.pos c (hj (takeN l).1 (takeN l).2.1)
    · subst hb
      have : ¬ (takeN l).2.2 = 0 := by intro e; unfold numR at c; rw [e] at c; simp at c
      unfold takeI
      rw [if_neg (fun h => this h.1)]
      rfl
  · have hbf : b = false ∧ (takeN l).2.2 = 0 := by
      unfold numR at c
      cases b with
      | true => simp at c
      | false => exact ⟨rfl, by simpa using c⟩
    obtain ⟨rfl, c0⟩ := hbf
    by_cases c7 : (takeN l).1 ≤ 7
    · obtain ⟨x, hx, hx2, hx3⟩ := TInts_l0 (takeN l).1 [] (takeN l).2.1 c7 (by simpa using c7) (by omega)
      refine ⟨x, ?_, by omega, fun h => by simp at h, fun _ => by unfold takeI; rw [if_pos ⟨c0, c7⟩]; exact hx3⟩
      unfold wal_Taker_Ints.f
      refine Ev.bind hN (Ev.neg c ?_)
      show Ev (fun k => wal_Taker_Ints.j0 k [] ((takeN l).1 : Int) (ba (takeN l).2.1) (decide (((takeN l).1 : Int) > 7))) _
      rw [decide_eq_false (by omega)]
      refine Ev.step (fun k => rfl) ?_
      simp only [wal_Taker_Ints.j0]
      exact hx
    · refine ⟨([], (takeN l).2.1, true), ?_, hlen, fun _ => rfl, fun _ => by unfold takeI; rw [if_neg (fun h => c7 h.2)]; rfl⟩
      unfold wal_Taker_Ints.f
      refine Ev.bind hN (Ev.neg c ?_)
      show Ev (fun k => wal_Taker_Ints.j0 k [] ((takeN l).1 : Int) (ba (takeN l).2.1) (decide (((takeN l).1 : Int) > 7))) _
      rw [decide_eq_true (by omega)]
      exact hj _ _
def rI (o : Option (List Int × List UInt8)) : List Int × ByteArray × Bool := match o with | some (a, r) => (a, ba r, true) | none => ([], ba [], false)
theorem RTInts_l0 (N : Nat) (hN : N ≤ 7) : ∀ (n j : Nat) (acc : List Int) (l : List UInt8), j + n = N → acc.length + n ≤ 7 → l.length ≤ 4611686018427387904 → Ev (fun k => gafferref03_TakeInts.l0 k (N : Int) (ba l) acc (j : Int)) (rI (takeIs n acc l))
  | 0, j, acc, l, hj, _, hl => by
    refine Ev.step (fun k => rfl) ?_
    simp only [gafferref03_TakeInts.l0]
    exact Ev.neg (by omega) (Ev.now _)
  | n + 1, j, acc, l, hj, ha, hl => by
    have hlen := takeN_len l
    have hlt := takeN_lt l
    have hu : IntKind.u64.wrap ((j : Int) + 1) = ((j + 1 : Nat) : Int) := by rw [u64_id (by omega) (by omega)]; omega
    refine Ev.step (fun k => rfl) ?_
    simp only [gafferref03_TakeInts.l0]
    rw [hu]
    refine Ev.pos (by omega) (Ev.bind (RTakeNumber_ev l hl) ?_)
    show Ev (fun k => if ((takeN l).2.2 : Int) = 0 then (if ((takeN l).1 : Int) > 7 then some (([] : List Int), (⟨#[]⟩ : ByteArray), false) else (if acc.length < 17592186044416 then gafferref03_TakeInts.l0 k (N : Int) (ba (takeN l).2.1) (acc ++ [wrap64 ((takeN l).1 : Int)]) ((j + 1 : Nat) : Int) else none)) else some (([] : List Int), (⟨#[]⟩ : ByteArray), false)) _
    rw [takeIs]
    by_cases c : (takeN l).2.2 = 0
    · refine Ev.pos (by omega) ?_
      by_cases c7 : (takeN l).1 ≤ 7
      · rw [if_pos ⟨c, c7⟩, wrap64_id (by omega) (by omega)]
        exact Ev.neg (by omega) (Ev.pos (by omega) (RTInts_l0 N hN n (j + 1) _ _ (by omega) (by rw [List.length_append, List.length_singleton]; omega) (by omega)))
      · rw [if_neg (fun h => c7 h.2)]
        exact Ev.pos (by omega) (Ev.now _)
    · rw [if_neg (fun h => c h.1)]
      exact Ev.neg (by omega) (Ev.now _)
theorem RTInts_ev (l : List UInt8) (hl : l.length ≤ 4611686018427387904) : Ev (fun k => gafferref03_TakeInts.f k (ba l)) (rI (takeI l)) := by
  have hlen := takeN_len l
  unfold gafferref03_TakeInts.f takeI
  refine Ev.bind (RTakeNumber_ev l hl) ?_
  show Ev (fun k => if ((takeN l).2.2 : Int) = 0 then gafferref03_TakeInts.j0 k ((takeN l).1 : Int) (ba (takeN l).2.1) (decide (((takeN l).1 : Int) > 7)) else gafferref03_TakeInts.j0 k ((takeN l).1 : Int) (ba (takeN l).2.1) true) _
  by_cases c : (takeN l).2.2 = 0
  · refine Ev.pos (by omega) (Ev.step (fun k => rfl) ?_)
    simp only [gafferref03_TakeInts.j0]
    by_cases c7 : (takeN l).1 ≤ 7
    · rw [if_pos ⟨c, c7⟩, decide_eq_false (by omega)]
      exact Ev.neg (by simp) (RTInts_l0 (takeN l).1 c7 (takeN l).1 0 [] (takeN l).2.1 (by omega) (by simpa using c7) (by omega))
    · rw [if_neg (fun h => c7 h.2), decide_eq_true (by omega)]
      exact Ev.pos (by simp) (Ev.now _)
  · rw [if_neg (fun h => c h.1)]
    refine Ev.neg (by omega) (Ev.step (fun k => rfl) ?_)
    simp only [gafferref03_TakeInts.j0]
    exact Ev.pos (by simp) (Ev.now _)
/-! there and back -/
theorem takeIs_inv : ∀ (n : Nat) (acc : List Int) (l : List UInt8) (a : List Int) (r : List UInt8), takeIs n acc l = some (a, r) → ∃ q : List Int, a = acc ++ q ∧ q.length = n ∧ l = numsL q ++ r ∧ ∀ m ∈ q, 0 ≤ m ∧ m ≤ 7
  | 0, acc, l, a, r, h => by
    rw [takeIs] at h
    obtain ⟨rfl, rfl⟩ := Prod.mk.inj (Option.some.inj h)
    exact ⟨[], by rw [List.append_nil], rfl, rfl, by simp⟩
  | n + 1, acc, l, a, r, h => by
    rw [takeIs] at h
    by_cases c : (takeN l).2.2 = 0 ∧ (takeN l).1 ≤ 7
    · rw [if_pos c] at h
      obtain ⟨q, h1, h2, h3, h4⟩ := takeIs_inv n _ _ a r h
      refine ⟨((takeN l).1 : Int) :: q, ?_, by rw [List.length_cons, h2], ?_, ?_⟩
      · rw [h1, List.append_assoc]; rfl
      · rw [numsL, Int.toNat_natCast, List.append_assoc, ← h3]
        exact takeN_inv (by rw [← c.1])
      · intro m hm
        rcases List.mem_cons.1 hm with rfl | hm
        · exact ⟨Int.natCast_nonneg _, by have := c.2; omega⟩
        · exact h4 m hm
    · rw [if_neg c] at h; cases h
theorem takeI_inv {l : List UInt8} {a : List Int} {r : List UInt8} (h : takeI l = some (a, r)) : l = intsL a ++ r ∧ a.length ≤ 7 ∧ (∀ m ∈ a, 0 ≤ m ∧ m ≤ 7) := by
  unfold takeI at h
  by_cases c : (takeN l).2.2 = 0 ∧ (takeN l).1 ≤ 7
  · rw [if_pos c] at h
    obtain ⟨q, h1, h2, h3, h4⟩ := takeIs_inv _ _ _ a r h
    rw [List.nil_append] at h1
    subst h1
    refine ⟨?_, by rw [h2]; exact c.2, h4⟩
    unfold intsL
    rw [h2, List.append_assoc, ← h3]
    exact takeN_inv (by rw [← c.1])
  · rw [if_neg c] at h; cases h
theorem takeI_len {l : List UInt8} {a : List Int} {r : List UInt8} (h : takeI l = some (a, r)) : r.length ≤ l.length := by
  rw [(takeI_inv h).1, List.length_append]; omega
end Go.Proofs.Ytpigjmjbfpipnaa.Sn
namespace Go.Proofs.Ytpigjmjbfpipnaa.Sn
open Go.RowKit YtpigjmjbfpipnaaW.PrintWords YtpigjmjbfpipnaaW.PrintLast YtpigjmjbfpipnaaW.PrintMore Ytpigjmjbfpipnaa.PF Ba
open Qm (memB Members_ev)
set_option linter.unusedVariables false
attribute [local instance 10] Classical.propDecidable
theorem mem_of : ∀ (l : List Int) (p : Int), 0 ≤ p → memB p l = true → (∀ m ∈ l, 0 ≤ m ∧ m ≤ 7) ∧ (p ≤ 7 → (l.length : Int) ≤ 7 - p)
  | [], p, hp, h => ⟨by simp, fun h7 => by simp; omega⟩
  | x :: r, p, hp, h => by
    rw [memB] at h
    by_cases h1 : x ≤ p
    · rw [if_pos h1] at h; cases h
    · rw [if_neg h1] at h
      by_cases h2 : x > 7
      · rw [if_pos h2] at h; cases h
      · rw [if_neg h2] at h
        obtain ⟨h3, h4⟩ := mem_of r x (by omega) h
        refine ⟨fun m hm => ?_, fun h7 => ?_⟩
        · rcases List.mem_cons.1 hm with rfl | hm
          · omega
          · exact h3 m hm
        · have := h4 (by omega)
          rw [List.length_cons]
          omega
def snapOk (i t : Int) (ms : List Int) (d : List UInt8) : Prop := (i = 0 ∧ t = 0 ∧ ms = [] ∧ d = []) ∨ (memB 0 ms = true ∧ d.length ≤ 64512)
theorem ok_mem {i t : Int} {ms : List Int} {d : List UInt8} (h : snapOk i t ms d) : (∀ m ∈ ms, 0 ≤ m ∧ m ≤ 7) ∧ ms.length ≤ 7 ∧ d.length ≤ 64512 := by
  rcases h with ⟨_, _, rfl, rfl⟩ | ⟨h, h2⟩
  · simp
  · obtain ⟨h3, h4⟩ := mem_of ms 0 (by omega) h
    exact ⟨h3, by have := h4 (by omega); omega, h2⟩
noncomputable def okR (i t : Int) (ms : List Int) (d : List UInt8) : Int := if snapOk i t ms d then 0 else 4
theorem okR_0 {i t : Int} {ms : List Int} {d : List UInt8} (h : snapOk i t ms d) : okR i t ms d = 0 := by unfold okR; exact if_pos h
theorem okR_4 {i t : Int} {ms : List Int} {d : List UInt8} (h : ¬ snapOk i t ms d) : okR i t ms d = 4 := by unfold okR; exact if_neg h
theorem Check_ev (i t : Int) (ms : List Int) (d : List UInt8) (hm : ms.length < 4611686018427387904) : Ev (fun k => snap_Check.f k i t ms (ba d)) (okR i t ms d) := by
  have hM := Members_ev ms hm
  have tail : ¬ (i = 0 ∧ t = 0 ∧ ms = [] ∧ d = []) → Ev (fun k => (wal_Members.f k ms).bind fun t103 => (if t103 = true then (if ((ba d).size : Int) > 64512 then (some 4) else (some (0 : Int))) else (some 4))) (okR i t ms d) := by
    intro hn
    refine Ev.bind hM ?_
    rw [ba_size]
    by_cases h1 : memB 0 ms = true
    · refine Ev.pos h1 ?_
      by_cases h2 : d.length ≤ 64512
      · rw [okR_0 (.inr ⟨h1, h2⟩)]; exact Ev.neg (by omega) (Ev.now _)
      · rw [okR_4 (fun h => h.elim hn (fun h => h2 h.2))]; exact Ev.pos (by omega) (Ev.now _)
    · rw [okR_4 (fun h => h.elim hn (fun h => h1 h.1))]; exact Ev.neg h1 (Ev.now _)
  unfold snap_Check.f
  by_cases h1 : i = 0
  · refine Ev.pos h1 ?_
    by_cases h2 : t = 0
    · refine Ev.pos h2 ?_
      by_cases h3 : ms = []
      · refine Ev.pos (by rw [h3]; rfl) ?_
        by_cases h4 : d = []
        · refine Ev.pos (by rw [ba_list, h4]) ?_
          rw [okR_0 (.inl ⟨h1, h2, h3, h4⟩)]
          exact Ev.now _
        · exact Ev.neg (by rw [ba_list]; exact h4) (tail (fun h => h4 h.2.2.2))
      · refine Ev.neg ?_ (tail (fun h => h3 h.2.2.1))
        intro h
        exact h3 (List.eq_nil_of_length_eq_zero (by omega))
    · exact Ev.neg h2 (tail (fun h => h2 h.2.1))
  · exact Ev.neg h1 (tail (fun h => h1 h.1))
theorem RCheck_ev (i t : Int) (ms : List Int) (d : List UInt8) (hm : ms.length < 4611686018427387904) : Ev (fun k => gafferref05_Check.f k i t ms (ba d)) (okR i t ms d) := by
  have hM := Go.Proofs.Ytpigjmjbfpipnaa.Qm.RMembers_ev ms hm
  have hno : gafferref05_nothing.f i t ms (ba d) = some (decide (i = 0 ∧ t = 0 ∧ ms = [] ∧ d = [])) := by
    unfold gafferref05_nothing.f
    by_cases h1 : i = 0
    · rw [if_pos h1]
      by_cases h2 : t = 0
      · rw [if_pos h2]
        by_cases h3 : ms = []
        · rw [if_pos (by rw [h3]; rfl), ba_list]
          by_cases h4 : d = []
          · rw [h4, decide_eq_true ⟨h1, h2, h3, rfl⟩]; rfl
          · rw [decide_eq_false (fun h => h4 h.2.2.2)]
            congr 1
            exact beq_eq_false_iff_ne.mpr h4
        · rw [if_neg (fun h => h3 (List.eq_nil_of_length_eq_zero (by omega))), decide_eq_false (fun h => h3 h.2.2.1)]
      · rw [if_neg h2, decide_eq_false (fun h => h2 h.2.1)]
    · rw [if_neg h1, decide_eq_false (fun h => h1 h.1)]
  unfold gafferref05_Check.f
  rw [hno]
  refine Ev.bind (Ev.now _) ?_
  by_cases h0 : i = 0 ∧ t = 0 ∧ ms = [] ∧ d = []
  · rw [okR_0 (.inl h0)]
    exact Ev.pos (decide_eq_true h0) (Ev.now _)
  · refine Ev.neg (by rw [decide_eq_false h0]; simp) (Ev.bind hM ?_)
    rw [ba_size]
    by_cases h1 : memB 0 ms = true
    · refine Ev.pos h1 ?_
      by_cases h2 : d.length ≤ 64512
      · rw [okR_0 (.inr ⟨h1, h2⟩)]; exact Ev.pos (by omega) (Ev.now _)
      · rw [okR_4 (fun h => h.elim h0 (fun h => h2 h.2))]; exact Ev.neg (by omega) (Ev.now _)
    · rw [okR_4 (fun h => h.elim h0 (fun h => h1 h.1))]; exact Ev.neg h1 (Ev.now _)
def snapL (i t : Nat) (ms : List Int) (d : List UInt8) : List UInt8 := numL i ++ (numL t ++ (intsL ms ++ textL d))
theorem intsL_len (ms : List Int) (h : ms.length ≤ 7) : (intsL ms).length ≤ 72 := by
  unfold intsL
  rw [List.length_append, numL_length]
  have := numsL_len ms; have := nl_le ms.length
  omega
theorem textL_len (d : List UInt8) : (textL d).length ≤ d.length + 9 := by
  unfold textL
  rw [List.length_append, numL_length]
  have := nl_le d.length
  omega
theorem snapL_len (i t : Nat) (ms : List Int) (d : List UInt8) (h : ms.length ≤ 7) : (snapL i t ms d).length ≤ d.length + 99 := by
  unfold snapL
  rw [List.length_append, List.length_append, List.length_append, numL_length, numL_length]
  have := intsL_len ms h; have := textL_len d; have := nl_le i; have := nl_le t
  omega
theorem Bytes_ev (i t : Nat) (ms : List Int) (d : List UInt8) (hi : i < 18446744073709551616) (ht : t < 18446744073709551616) (h : snapOk i t ms d) : Ev (fun k => snap_Bytes.f k (i : Int) (t : Int) ms (ba d)) (ba (snapL i t ms d)) := by
  obtain ⟨h1, h2, h3⟩ := ok_mem h
  have l1 := nl_le i; have l2 := nl_le t; have l3 := intsL_len ms h2; have l4 := textL_len d
  unfold snap_Bytes.f
  refine Ev.bind (Number_ev i hi) (Ev.bind (Number_ev t ht) (Ev.pos (by rw [ba_size, ba_size, numL_length, numL_length]; omega) (Ev.bind (Ints_ev ms h1 (by omega)) (Ev.pos (by rw [ba_append, ba_size, ba_size, List.length_append, numL_length, numL_length]; omega) (Ev.bind (Text_ev d (by omega)) (Ev.pos (by rw [ba_append, ba_append, ba_size, ba_size, List.length_append, List.length_append, numL_length, numL_length]; omega) ?_))))))
  rw [ba_append, ba_append, ba_append, List.append_assoc, List.append_assoc]
  exact Ev.now _
theorem RBytes_ev (i t : Nat) (ms : List Int) (d : List UInt8) (hi : i < 18446744073709551616) (ht : t < 18446744073709551616) (h : snapOk i t ms d) : Ev (fun k => gafferref05_Bytes.f k (i : Int) (t : Int) ms (ba d)) (ba (snapL i t ms d)) := by
  obtain ⟨h1, h2, h3⟩ := ok_mem h
  have l1 := nl_le i; have l2 := nl_le t; have l3 := intsL_len ms h2; have l4 := textL_len d
  unfold gafferref05_Bytes.f
  refine Ev.bind (RNumber_ev i hi) (Ev.bind (RNumber_ev t ht) (Ev.pos (by rw [ba_size, ba_size, numL_length, numL_length]; omega) (Ev.bind (RInts_ev ms h1 (by omega)) (Ev.pos (by rw [ba_append, ba_size, ba_size, List.length_append, numL_length, numL_length]; omega) (Ev.bind (RText_ev d (by omega)) (Ev.pos (by rw [ba_append, ba_append, ba_size, ba_size, List.length_append, List.length_append, numL_length, numL_length]; omega) ?_))))))
  rw [ba_append, ba_append, ba_append, List.append_assoc, List.append_assoc]
  exact Ev.now _
structure Sn where
  i : Nat
  t : Nat
  ms : List Int
  d : List UInt8
  r : List UInt8
noncomputable def takeS (l : List UInt8) : Option Sn :=
  if (takeN l).2.2 = 0 then
    if (takeN (takeN l).2.1).2.2 = 0 then
      match takeI (takeN (takeN l).2.1).2.1 with
      | some (ms, r) => if (takeT r).2.2 = 0 then (if snapOk (takeN l).1 (takeN (takeN l).2.1).1 ms (takeT r).1 then some ⟨(takeN l).1, (takeN (takeN l).2.1).1, ms, (takeT r).1, (takeT r).2.1⟩ else none) else none
      | none => none
    else none
  else none
noncomputable def decR (l : List UInt8) : Int × Int × List Int × ByteArray × Int :=
  match takeS l with
  | some x => if x.r = [] then ((x.i : Int), (x.t : Int), x.ms, ba x.d, 0) else (0, 0, [], ba [], 4)
  | none => (0, 0, [], ba [], 4)
def okS (x : Int × Int × List Int × ByteArray × List UInt8 × Bool) (o : Option Sn) : Prop := match o with | some s => x = ((s.i : Int), (s.t : Int), s.ms, ba s.d, s.r, false) | none => x.2.2.2.2.2 = true
theorem TSnap_ev (l : List UInt8) (hl : l.length ≤ 4611686018427387903) : ∃ x : Int × Int × List Int × ByteArray × List UInt8 × Bool, Ev (fun k => snap_Taker_Snap.f k (ba l) false) (x.1, x.2.1, x.2.2.1, x.2.2.2.1, ba x.2.2.2.2.1, x.2.2.2.2.2) ∧ okS x (takeS l) := by
  have n1 := takeN_len l
  have n2 := takeN_len (takeN l).2.1
  obtain ⟨y, hy, hy2, hy3, hy4⟩ := TInts_ev (takeN (takeN l).2.1).2.1 (numR (takeN l).2.1 (numR l false).2.2).2.2 (by omega)
  have hT := TText_ev y.2.1 y.2.2 (by omega)
  have hmsl : y.1.length < 4611686018427387904 ∨ (txtR y.2.1 y.2.2).2.2 = true := by
    by_cases hb : y.2.2 = true
    · exact .inr (by unfold txtR; rw [hb]; rfl)
    · refine .inl ?_
      have hf : (numR (takeN l).2.1 (numR l false).2.2).2.2 = false := by
        cases hq : (numR (takeN l).2.1 (numR l false).2.2).2.2 with
        | true => exact absurd (hy3 hq) hb
        | false => rfl
      have h4 := hy4 hf
      cases hq : takeI (takeN (takeN l).2.1).2.1 with
      | none => rw [hq] at h4; exact absurd h4 hb
      | some z =>
        obtain ⟨a, r⟩ := z
        rw [hq] at h4
        have h5 : y = (a, r, false) := h4
        have := (takeI_inv hq).2.1
        rw [h5]
        show a.length < _
        omega
  by_cases hb : (txtR y.2.1 y.2.2).2.2 = true
  · refine ⟨(((takeN l).1 : Int), ((takeN (takeN l).2.1).1 : Int), y.1, ba (takeT y.2.1).1, (takeT y.2.1).2.1, true), ?_, ?_⟩
    · unfold snap_Taker_Snap.f
      refine Ev.bind (TNumber_ev l false (by omega)) (Ev.bind (TNumber_ev _ _ (by show (takeN l).2.1.length ≤ _; omega)) (Ev.bind hy (Ev.bind hT (Ev.pos hb (Ev.now _)))))
    · have : takeS l = none := by
        unfold takeS
        by_cases c1 : (takeN l).2.2 = 0
        · rw [if_pos c1]
          by_cases c2 : (takeN (takeN l).2.1).2.2 = 0
          · rw [if_pos c2]
            have hf : (numR (takeN l).2.1 (numR l false).2.2).2.2 = false := by unfold numR; rw [c1, c2]; rfl
            have h4 := hy4 hf
            cases hq : takeI (takeN (takeN l).2.1).2.1 with
            | none => rfl
            | some z =>
              obtain ⟨a, r⟩ := z
              rw [hq] at h4
              have h5 : y = (a, r, false) := h4
              rw [h5] at hb
              show (if (takeT r).2.2 = 0 then _ else none) = none
              rw [if_neg]
              intro h
              unfold txtR at hb
              rw [h] at hb
              simp at hb
          · rw [if_neg c2]
        · rw [if_neg c1]
      rw [this]
      exact rfl
  · have hml := hmsl.resolve_right hb
    -- nothing was bad: all was there
    have hyb : y.2.2 = false ∧ (takeT y.2.1).2.2 = 0 := by
      unfold txtR at hb
      cases hq : y.2.2 with
      | true => rw [hq] at hb; exact absurd rfl hb
      | false => exact ⟨rfl, by rw [hq] at hb; simpa using hb⟩
    have hf : (numR (takeN l).2.1 (numR l false).2.2).2.2 = false := by
      cases hq : (numR (takeN l).2.1 (numR l false).2.2).2.2 with
      | true => rw [hy3 hq] at hyb; exact absurd hyb.1 (by simp)
      | false => rfl
    have hc : (takeN l).2.2 = 0 ∧ (takeN (takeN l).2.1).2.2 = 0 := by
      unfold numR at hf
      simp only [Bool.false_or, Bool.or_eq_false_iff, bne_eq_false_iff_eq] at hf
      exact hf
    have h4 := hy4 hf
    cases hq : takeI (takeN (takeN l).2.1).2.1 with
    | none => rw [hq] at h4; rw [show y.2.2 = true from h4] at hyb; exact absurd hyb.1 (by simp)
    | some z =>
      obtain ⟨a, r⟩ := z
      rw [hq] at h4
      have h5 : y = (a, r, false) := h4
      subst h5
      have hC := Check_ev (takeN l).1 (takeN (takeN l).2.1).1 a (takeT r).1 hml
      have hS : takeS l = if snapOk (takeN l).1 (takeN (takeN l).2.1).1 a (takeT r).1 then some ⟨(takeN l).1, (takeN (takeN l).2.1).1, a, (takeT r).1, (takeT r).2.1⟩ else none := by
        unfold takeS
        rw [if_pos hc.1, if_pos hc.2, hq]
        show (if (takeT r).2.2 = 0 then _ else none) = _
        rw [if_pos hyb.2]
      refine ⟨(((takeN l).1 : Int), ((takeN (takeN l).2.1).1 : Int), a, ba (takeT r).1, (takeT r).2.1, okR (takeN l).1 (takeN (takeN l).2.1).1 a (takeT r).1 != 0), ?_, ?_⟩
      · unfold snap_Taker_Snap.f
        refine Ev.bind (TNumber_ev l false (by omega)) (Ev.bind (TNumber_ev _ _ (by show (takeN l).2.1.length ≤ _; omega)) (Ev.bind hy (Ev.bind hT (Ev.neg hb (Ev.bind hC (Ev.now _))))))
      · rw [hS]
        unfold okR
        by_cases hk : snapOk (takeN l).1 (takeN (takeN l).2.1).1 a (takeT r).1
        · rw [if_pos hk, if_pos hk]; exact rfl
        · rw [if_neg hk, if_neg hk]; exact rfl
theorem Decode_ev (l : List UInt8) (hl : l.length ≤ 4611686018427387903) : Ev (fun k => snap_Decode.f k (ba l)) (decR l) := by
  obtain ⟨x, hx, hk⟩ := TSnap_ev l hl
  unfold snap_Decode.f decR
  refine Ev.bind hx ?_
  cases hq : takeS l with
  | none =>
    rw [hq] at hk
    exact Ev.pos hk (Ev.now _)
  | some s =>
    rw [hq] at hk
    have hk' : x = ((s.i : Int), (s.t : Int), s.ms, ba s.d, s.r, false) := hk
    subst hk'
    refine Ev.neg (by simp) ?_
    show Ev (fun _ => if (ba s.r).toList = ([] : List UInt8) then some ((s.i : Int), (s.t : Int), s.ms, ba s.d, (0 : Int)) else some (0, 0, ([] : List Int), (⟨#[]⟩ : ByteArray), 4)) (if s.r = [] then ((s.i : Int), (s.t : Int), s.ms, ba s.d, (0 : Int)) else (0, 0, [], ba [], 4))
    by_cases c : s.r = []
    · rw [if_pos c]; exact Ev.pos (by rw [ba_list]; exact c) (Ev.now _)
    · rw [if_neg c]; exact Ev.neg (by rw [ba_list]; exact c) (Ev.now _)
noncomputable def rS (o : Option Sn) : Int × Int × List Int × ByteArray × ByteArray × Bool := match o with | some s => ((s.i : Int), (s.t : Int), s.ms, ba s.d, ba s.r, true) | none => (0, 0, [], ba [], ba [], false)
theorem RTake_ev (l : List UInt8) (hl : l.length ≤ 4611686018427387903) : Ev (fun k => gafferref05_Take.f k (ba l)) (rS (takeS l)) := by
  have n1 := takeN_len l
  have n2 := takeN_len (takeN l).2.1
  have hbad : ∀ (P : Prop), Ev (fun _ => some ((0 : Int), (0 : Int), ([] : List Int), (⟨#[]⟩ : ByteArray), (⟨#[]⟩ : ByteArray), false)) (rS none) := fun _ => Ev.now _
  unfold gafferref05_Take.f
  have hr : (rI (takeI (takeN (takeN l).2.1).2.1)).2.1 = ba (match takeI (takeN (takeN l).2.1).2.1 with | some (_, r) => r | none => []) := by
    cases takeI (takeN (takeN l).2.1).2.1 with
    | none => rfl
    | some z => rfl
  have hrl : (match takeI (takeN (takeN l).2.1).2.1 with | some (_, r) => r | none => []).length ≤ l.length := by
    cases hq : takeI (takeN (takeN l).2.1).2.1 with
    | none => exact Nat.zero_le _
    | some z =>
      obtain ⟨a, r⟩ := z
      have := takeI_len hq
      show r.length ≤ _
      omega
  have hT := RTakeText_ev (match takeI (takeN (takeN l).2.1).2.1 with | some (_, r) => r | none => []) (by omega)
  rw [← hr] at hT
  refine Ev.bind (RTakeNumber_ev l (by omega)) (Ev.bind (RTakeNumber_ev _ (by omega)) (Ev.bind (RTInts_ev _ (by omega)) (Ev.bind hT ?_)))
  unfold takeS
  by_cases c1 : (takeN l).2.2 = 0
  · rw [if_pos c1]
    refine Ev.pos (by show ((takeN l).2.2 : Int) = 0; omega) ?_
    by_cases c2 : (takeN (takeN l).2.1).2.2 = 0
    · rw [if_pos c2]
      refine Ev.pos (by show ((takeN (takeN l).2.1).2.2 : Int) = 0; omega) ?_
      cases hq : takeI (takeN (takeN l).2.1).2.1 with
      | none => exact Ev.neg (by rw [rI]; simp) (hbad True)
      | some z =>
        obtain ⟨a, r⟩ := z
        refine Ev.pos rfl ?_
        show Ev (fun k => if ((takeT r).2.2 : Int) = 0 then (gafferref05_Check.f k ((takeN l).1 : Int) ((takeN (takeN l).2.1).1 : Int) a (ba (takeT r).1)).bind fun t230 => (if t230 = 0 then (some (((takeN l).1 : Int), ((takeN (takeN l).2.1).1 : Int), a, ba (takeT r).1, ba (takeT r).2.1, true)) else (some (0, 0, ([] : List Int), (⟨#[]⟩ : ByteArray), (⟨#[]⟩ : ByteArray), false))) else some (0, 0, ([] : List Int), (⟨#[]⟩ : ByteArray), (⟨#[]⟩ : ByteArray), false)) (rS (if (takeT r).2.2 = 0 then (if snapOk (takeN l).1 (takeN (takeN l).2.1).1 a (takeT r).1 then some ⟨(takeN l).1, (takeN (takeN l).2.1).1, a, (takeT r).1, (takeT r).2.1⟩ else none) else none))
        by_cases c3 : (takeT r).2.2 = 0
        · rw [if_pos c3]
          have := (takeI_inv hq).2.1
          refine Ev.pos (by omega) (Ev.bind (RCheck_ev _ _ a _ (by omega)) ?_)
          unfold okR
          by_cases hk : snapOk (takeN l).1 (takeN (takeN l).2.1).1 a (takeT r).1
          · rw [if_pos hk, if_pos hk]; exact Ev.pos rfl (Ev.now _)
          · rw [if_neg hk, if_neg hk]; exact Ev.neg (by decide) (Ev.now _)
        · rw [if_neg c3]
          exact Ev.neg (by omega) (hbad True)
    · rw [if_neg c2]
      exact Ev.neg (by show ¬ ((takeN (takeN l).2.1).2.2 : Int) = 0; omega) (hbad True)
  · rw [if_neg c1]
    exact Ev.neg (by show ¬ ((takeN l).2.2 : Int) = 0; omega) (hbad True)
theorem RDecode_ev (l : List UInt8) (hl : l.length ≤ 4611686018427387903) : Ev (fun k => gafferref05_Decode.f k (ba l)) (decR l) := by
  unfold gafferref05_Decode.f decR
  refine Ev.bind (RTake_ev l hl) ?_
  cases hq : takeS l with
  | none => exact Ev.neg (by rw [rS]; simp) (Ev.now _)
  | some s =>
    refine Ev.pos rfl ?_
    show Ev (fun _ => if (ba s.r).toList = ([] : List UInt8) then some ((s.i : Int), (s.t : Int), s.ms, ba s.d, (0 : Int)) else some (0, 0, ([] : List Int), (⟨#[]⟩ : ByteArray), 4)) (if s.r = [] then ((s.i : Int), (s.t : Int), s.ms, ba s.d, (0 : Int)) else (0, 0, [], ba [], 4))
    by_cases c : s.r = []
    · rw [if_pos c]; exact Ev.pos (by rw [ba_list]; exact c) (Ev.now _)
    · rw [if_neg c]; exact Ev.neg (by rw [ba_list]; exact c) (Ev.now _)

/-! One and the same -/
theorem SameInts_l0 (l : List Int) (hl : l.length < 4611686018427387904) : ∀ (m j : Nat), j + m = l.length → Ev (fun k => gafferref03_SameInts.l0 k l l (l.length : Int) (j : Int)) true
  | 0, j, hj => by
    refine Ev.step (fun k => rfl) ?_
    simp only [gafferref03_SameInts.l0]
    exact Ev.neg (by omega) (Ev.now _)
  | m + 1, j, hj => by
    refine Ev.step (fun k => rfl) ?_
    simp only [gafferref03_SameInts.l0]
    rw [up1 (by omega)]
    exact Ev.pos (by omega) (Ev.pos (by omega) (Ev.pos (by omega) (Ev.pos (by omega) (Ev.pos (by simp) (SameInts_l0 l hl m (j + 1) (by omega))))))
theorem Same_ev (i t : Int) (ms : List Int) (d : ByteArray) (hl : ms.length < 4611686018427387904) : Ev (fun k => gafferref05_Same.f k i t ms d i t ms d) true := by
  unfold gafferref05_Same.f gafferref03_SameInts.f
  exact Ev.pos rfl (Ev.pos rfl (Ev.pos rfl (Ev.bind (Ev.pos rfl (SameInts_l0 ms hl ms.length 0 (by omega))) (Ev.now _))))
theorem decR_len (l : List UInt8) : (decR l).2.2.1.length ≤ 7 := by
  unfold decR
  cases hq : takeS l with
  | none => simp
  | some s =>
    show (if s.r = [] then ((s.i : Int), (s.t : Int), s.ms, ba s.d, (0 : Int)) else (0, 0, [], ba [], 4)).2.2.1.length ≤ 7
    split
    · have : snapOk s.i s.t s.ms s.d := by
        unfold takeS at hq
        repeat' split at hq
        all_goals first | (cases hq; done) | skip
        all_goals (obtain rfl := Option.some.inj hq; assumption)
      exact (ok_mem this).2.1
    · simp
/-! there and back -/
end Go.Proofs.Ytpigjmjbfpipnaa.Sn
namespace Go.Proofs.Ytpigjmjbfpipnaa.Sn
open Go.RowKit YtpigjmjbfpipnaaW.PrintWords YtpigjmjbfpipnaaW.PrintLast YtpigjmjbfpipnaaW.PrintMore Ytpigjmjbfpipnaa.PF Ba
set_option linter.unusedVariables false
theorem lives_ev : Ev (fun k => gafferlaw05_lives.f k) true := Ev.of (k := 300) (fun k => gafferlaw05_lives.mono k) (by decide +kernel)
end Go.Proofs.Ytpigjmjbfpipnaa.Sn
namespace Go.Proofs.Ytpigjmjbfpipnaa.Sn
open Go.RowKit YtpigjmjbfpipnaaW.PrintWords YtpigjmjbfpipnaaW.PrintLast YtpigjmjbfpipnaaW.PrintMore Ytpigjmjbfpipnaa.PF Ba Sh Ytpigjmjbfpipnaa.Op Dk
set_option linter.unusedVariables false
attribute [local instance 10] Classical.propDecidable
abbrev R5 := Int × Int × List Int × ByteArray × Int
def sname : ByteArray := (⟨#[115, 110, 97, 112]⟩ : ByteArray)
theorem takeF_len (l : List UInt8) : (takeF l).1.length ≤ l.length := by
  unfold takeF
  repeat' split
  all_goals first | exact Nat.zero_le _ | (simp only [List.length_take, List.length_drop]; omega)
theorem frame_small (p : List UInt8) (h : p.length ≤ 65536) : frameR p = (ba (frameL p), 0) := by unfold frameR; rw [if_neg (by omega)]
theorem rdR_size {l : List S71} {d : Bool} {n : ByteArray} {B : Nat} (hs : ∀ x ∈ l, x.f1.size ≤ B) : (rdR l d n).1.size ≤ B := by
  unfold rdR readR
  split
  · exact Nat.zero_le _
  · split
    · exact Nat.zero_le _
    · have ho := oAt_at n l
      generalize oAt n l = o at ho
      cases ho with
      | bad h => exact Nat.zero_le _
      | none A B _ e _ _ => exact Nat.zero_le _
      | some A g B _ e _ _ _ => exact hs g (by rw [e]; exact mem_mid.2 (.inl rfl))
def sfileL (i t : Nat) (ms : List Int) (d : List UInt8) : List UInt8 := frameL (snapL i t ms d)
theorem sfileL_len {i t : Nat} {ms : List Int} {d : List UInt8} (h : snapOk i t ms d) : (snapL i t ms d).length ≤ 65536 ∧ (sfileL i t ms d).length ≤ 65600 := by
  obtain ⟨_, h2, h3⟩ := ok_mem h
  have := snapL_len i t ms d h2
  unfold sfileL
  rw [frameL_length]
  omega
noncomputable def loadSB (s : List UInt8) : R5 := if (takeF s).2.2 = 0 ∧ (takeF s).2.1 = [] then decR (takeF s).1 else (0, 0, [], ba [], 4)
theorem decR_two (l : List UInt8) : (decR l).2.2.2.2 = 0 ∨ decR l = (0, 0, [], ba [], 4) := by
  unfold decR
  split
  · split
    · exact .inl rfl
    · exact .inr rfl
  · exact .inr rfl
theorem loadSB_ev (s : List UInt8) (hs : s.length ≤ 4611686018427387903) :
    Ev (fun k => (pack_TakeFrame.f k (ba s)).bind fun x => (snap_Decode.f k x.1).bind fun y => if x.2.2 = 0 then (if y.2.2.2.2 = 0 then (if x.2.1.toList = ([] : List UInt8) then some (y.1, y.2.1, y.2.2.1, y.2.2.2.1, (0 : Int)) else some (0, 0, ([] : List Int), (⟨#[]⟩ : ByteArray), 4)) else some (0, 0, ([] : List Int), (⟨#[]⟩ : ByteArray), 4)) else some (0, 0, ([] : List Int), (⟨#[]⟩ : ByteArray), 4)) (loadSB s) := by
  have hlen := takeF_len s
  refine Ev.bind (TakeFrame_ev s (by omega)) (Ev.bind (Decode_ev _ (by omega)) ?_)
  unfold loadSB
  show Ev (fun k => if ((takeF s).2.2 : Int) = 0 then (if (decR (takeF s).1).2.2.2.2 = 0 then (if (ba (takeF s).2.1).toList = ([] : List UInt8) then some ((decR (takeF s).1).1, (decR (takeF s).1).2.1, (decR (takeF s).1).2.2.1, (decR (takeF s).1).2.2.2.1, (0 : Int)) else some (0, 0, ([] : List Int), (⟨#[]⟩ : ByteArray), 4)) else some (0, 0, ([] : List Int), (⟨#[]⟩ : ByteArray), 4)) else some (0, 0, ([] : List Int), (⟨#[]⟩ : ByteArray), 4)) _
  rw [ba_list]
  by_cases c1 : (takeF s).2.2 = 0
  · refine Ev.pos (by omega) ?_
    by_cases c2 : (takeF s).2.1 = []
    · have hc : (takeF s).2.2 = 0 ∧ (takeF s).2.1 = [] := ⟨c1, c2⟩
      rw [if_pos hc]
      rcases decR_two (takeF s).1 with e | e
      · generalize decR (takeF s).1 = z at e ⊢
        obtain ⟨z1, z2, z3, z4, z5⟩ := z
        have e : z5 = 0 := e
        subst e
        exact Ev.pos rfl (Ev.pos c2 (Ev.now _))
      · rw [e]
        exact Ev.neg (by simp) (Ev.now _)
    · have hc : ¬ ((takeF s).2.2 = 0 ∧ (takeF s).2.1 = []) := fun h => c2 h.2
      rw [if_neg hc]
      exact Ev.ite (fun _ => Ev.neg c2 (Ev.now _)) (fun _ => Ev.now _)
  · have hc : ¬ ((takeF s).2.2 = 0 ∧ (takeF s).2.1 = []) := fun h => c1 h.1
    rw [if_neg hc]
    exact Ev.neg (by omega) (Ev.now _)
noncomputable def loadSR (l : List S71) (d : Bool) : R5 :=
  if (rdR l d sname).2 = 0 then loadSB (rdR l d sname).1.toList else if (rdR l d sname).2 = 6 then (0, 0, [], ba [], 0) else (0, 0, [], ba [], (rdR l d sname).2)
theorem LoadS_ev (l : List S71) (d : Bool) (f : Int) (hl : l.length < 4611686018427387904) (hs : ∀ x ∈ l, x.f1.size ≤ 4611686018427387903) : Ev (fun k => snap_Load.f k l d f) (loadSR l d) := by
  unfold snap_Load.f loadSR
  have hR : Ev (fun k => disk_Read.f k l d f (⟨#[115, 110, 97, 112]⟩ : ByteArray)) (rdR l d sname) := Read_ev l d f _ _ (oAt_at (⟨#[115, 110, 97, 112]⟩ : ByteArray) l) hl
  have hz := rdR_size (d := d) (n := sname) hs
  generalize rdR l d sname = x at hR hz ⊢
  refine Ev.bind hR ?_
  obtain ⟨x1, x2⟩ := x
  obtain ⟨s, rfl, hsl⟩ := exists_ba x1
  by_cases c : x2 = 0
  · subst c
    rw [if_pos rfl]
    have := loadSB_ev s (by rw [hsl]; exact hz)
    rw [show loadSB s = loadSB (ba s).toList by rw [ba_list]] at this
    exact Ev.neg (by show ¬ (0 : Int) = 6; decide) (Ev.pos rfl this)
  · rw [if_neg c]
    by_cases c2 : x2 = 6
    · rw [if_pos c2]; exact Ev.pos c2 (Ev.now _)
    · rw [if_neg c2]; exact Ev.neg c2 (Ev.neg c (Ev.now _))

/-! Saving -/
noncomputable def noSR (l : List S71) (d : Bool) (f w : Int) : R4 := if Dk.Good l then (l, d, f, w) else ([], false, 0, w)
noncomputable def saveSR (l : List S71) (d : Bool) (f : Int) (i t : Nat) (ms : List Int) (dt : List UInt8) : R4 :=
  if snapOk i t ms dt then
    (if (loadSR l d).2.2.2.2 = 0 then (if (loadSR l d).1 > (i : Int) then noSR l d f 17 else putR l d f sname (ba (sfileL i t ms dt))) else noSR l d f (loadSR l d).2.2.2.2)
  else noSR l d f 4
theorem save_j0 (l : List S71) (d : Bool) (f : Int) (i t : Nat) (ms : List Int) (dt : List UInt8) (w : Int) (hi : i < 18446744073709551616) (ht : t < 18446744073709551616) (hok : w = 0 → snapOk i t ms dt) (hl : l.length + 4 < 3518437208883) (hf : f < 9223372036854775808) (hs : ∀ x ∈ l, x.f1.size ≤ 4611686018427387903) :
    Ev (fun k => snap_Save.j0 k w l d f (i : Int) (t : Int) ms (ba dt)) (if w = 0 then putR l d f sname (ba (sfileL i t ms dt)) else noSR l d f w) := by
  refine Ev.step (fun k => rfl) ?_
  simp only [snap_Save.j0]
  by_cases c : w = 0
  · have h := hok c
    obtain ⟨z1, z2⟩ := sfileL_len h
    rw [if_pos c]
    refine Ev.pos c (Ev.bind (Bytes_ev i t ms dt hi ht h) (Ev.bind (Frame_ev _ (by omega)) ?_))
    rw [frame_small _ z1]
    refine Ev.bind (Put_ev l d f sname _ hl hf hs (by show (ba (sfileL i t ms dt)).size ≤ _; rw [ba_size]; omega) (by show 4 ≤ _; omega)) ?_
    exact Ev.now _
  · rw [if_neg c]
    refine Ev.neg c (Ev.bind (Dk.Check_ev l d f (by omega)) ?_)
    unfold noSR
    by_cases hg : Dk.Good l
    · rw [if_pos hg, res_pos hg]
      refine Ev.pos rfl (Ev.bind (Ev.now _) (Ev.pos (by simp only [List.length_nil]; omega) ?_))
      exact Ev.now _
    · rw [if_neg hg, res_neg hg]
      exact Ev.neg (by decide) (Ev.now _)
theorem SaveS_ev (l : List S71) (d : Bool) (f : Int) (i t : Nat) (ms : List Int) (dt : List UInt8) (hi : i < 18446744073709551616) (ht : t < 18446744073709551616) (hm : ms.length < 4611686018427387904) (hl : l.length + 4 < 3518437208883) (hf : f < 9223372036854775808) (hs : ∀ x ∈ l, x.f1.size ≤ 4611686018427387903) :
    Ev (fun k => snap_Save.f k l d f (i : Int) (t : Int) ms (ba dt)) (saveSR l d f i t ms dt) := by
  unfold snap_Save.f saveSR
  refine Ev.bind (Check_ev i t ms dt hm) ?_
  by_cases h : snapOk i t ms dt
  · have hj := fun w => save_j0 l d f i t ms dt w hi ht (fun _ => h) hl hf hs
    rw [okR_0 h, if_pos h]
    refine Ev.pos rfl (Ev.bind (LoadS_ev l d f (by omega) hs) ?_)
    generalize loadSR l d = z
    by_cases c : z.2.2.2.2 = 0
    · rw [if_pos c]
      refine Ev.pos c ?_
      by_cases c2 : z.1 > (i : Int)
      · rw [if_pos c2]
        refine Ev.pos c2 ?_
        have := hj 17
        rwa [if_neg (by decide)] at this
      · rw [if_neg c2]
        refine Ev.neg c2 ?_
        have := hj z.2.2.2.2
        rwa [if_pos c] at this
    · rw [if_neg c]
      refine Ev.neg c ?_
      have := hj z.2.2.2.2
      rwa [if_neg c] at this
  · rw [okR_4 h, if_neg h]
    refine Ev.neg (by decide) ?_
    have := save_j0 l d f i t ms dt 4 hi ht (fun e => absurd e (by decide)) hl hf hs
    rwa [if_neg (by decide)] at this
inductive SaveOf (l : List S71) (f : Int) (i t : Nat) (ms : List Int) (dt : List UInt8) (r : R4) : Prop where
  | no (w : Int) (e : r = (l, false, f, w)) (hw : w = 4 ∨ w = 17)
  | done (ok : snapOk i t ms dt) (h0 : r.2.2.2 = 0) (h1 : r.2.1 = false) (h2 : f < 0 → r.2.2.1 = f) (hS : Saved l sname (ba (sfileL i t ms dt)) r.1)
  | off (ok : snapOk i t ms dt) (h0 : r.2.2.2 ≠ 0) (hU : Unsaved l f sname (ba (sfileL i t ms dt)) r.2.2.2 r.1)
theorem saveSR_len (l : List S71) (d : Bool) (f : Int) (i t : Nat) (ms : List Int) (dt : List UInt8) : (saveSR l d f i t ms dt).1.length ≤ l.length + 4 := by
  have hn : ∀ w, (noSR l d f w).1.length ≤ l.length + 4 := fun w => by
    unfold noSR
    split
    · exact Nat.le_add_right _ _
    · exact Nat.zero_le _
  unfold saveSR
  split
  · split
    · split
      · exact hn _
      · exact putR_len _ _ _ _ _
    · exact hn _
  · exact hn _
structure CameS (x : S48) (i t : Nat) (d : List UInt8) : Prop where
  ei : x.f0 = (i : Int)
  et : x.f1 = (t : Int)
  ed : x.f3 = ba d
  hi : i < 18446744073709551616
  ht : t < 18446744073709551616
  hm : x.f2.length < 4611686018427387904
theorem cameS {x : S48} (h : ok48 x) : ∃ i t d, CameS x i t d := by
  obtain ⟨hi0, ht0, hm, hd⟩ := h
  obtain ⟨i, ei, hi⟩ := nat_of_u64 hi0
  obtain ⟨t, et, ht⟩ := nat_of_u64 ht0
  obtain ⟨d, ed, hdl⟩ := exists_ba x.f3
  exact ⟨i, t, d, ei, et, ed, hi, ht, by have := hm.1; omega⟩
end Go.Proofs.Ytpigjmjbfpipnaa.Sn
namespace Go.Proofs.Ytpigjmjbfpipnaa.Dk
open Go.RowKit YtpigjmjbfpipnaaW.PrintWords YtpigjmjbfpipnaaW.PrintLast YtpigjmjbfpipnaaW.PrintMore Ytpigjmjbfpipnaa.PF Ba Sh Ytpigjmjbfpipnaa.Op
set_option linter.unusedVariables false
attribute [local instance 10] Classical.propDecidable

theorem rput_j1 (l : List S71) (d : Bool) (f : Int) (tm nm : ByteArray) (w : Int) (hl : l.length + 2 < 3518437208883) (hf : f < 9223372036854775808) :
    Ev (fun k => gafferref04_Put.j1 k nm tm w l d f) (if w = 0 then (if (syncR l d f tm).2.2.2 = 0 then swapR (syncR l d f tm).1 (syncR l d f tm).2.1 (syncR l d f tm).2.2.1 tm nm else syncR l d f tm) else (l, d, f, w)) := by
  refine Ev.step (fun k => rfl) ?_
  simp only [gafferref04_Put.j1]
  by_cases c : w = 0
  · rw [if_pos c]
    have hR : Ev (fun k => gafferref02_Sync.f k l d f tm) (syncR l d f tm) := RSync_ev l d f tm _ (oAt_at tm l) (by omega) hf
    have l2 := syncR_len l d f tm
    have f2 : (syncR l d f tm).2.2.1 < 9223372036854775808 := opR_fuse hf
    generalize syncR l d f tm = y at hR l2 f2 ⊢
    refine Ev.pos c (Ev.bind hR ?_)
    by_cases c2 : y.2.2.2 = 0
    · rw [if_pos c2]
      refine Ev.pos c2 (Ev.bind (RSwap_ev y.1 y.2.1 y.2.2.1 tm nm _ (oAt_at tm y.1) (by omega) f2) (Ev.now _))
    · rw [if_neg c2]
      exact Ev.neg c2 (Ev.now _)
  · rw [if_neg c]
    exact Ev.neg c (Ev.now _)
theorem rput_j0 (l : List S71) (d : Bool) (f : Int) (tm nm dt : ByteArray) (w : Int) (hl : l.length + 3 < 3518437208883) (hf : f < 9223372036854775808) (hs : ∀ x ∈ l, x.f1.size ≤ 4611686018427387903) (hd : dt.size ≤ 4611686018427387904) :
    Ev (fun k => gafferref04_Put.j0 k nm dt tm w l d f) (if w = 0 then tailR l d f tm nm dt else (l, d, f, w)) := by
  refine Ev.step (fun k => rfl) ?_
  simp only [gafferref04_Put.j0]
  by_cases c : w = 0
  · rw [if_pos c]
    unfold tailR
    have hR : Ev (fun k => gafferref02_Add.f k l d f tm dt) (addR l d f tm dt) := RAdd_ev l d f tm dt _ (oAt_at tm l) (by omega) hf hs hd
    have l2 := addR_len l d f tm dt
    have f2 : (addR l d f tm dt).2.2.1 < 9223372036854775808 := opR_fuse hf
    generalize addR l d f tm dt = y at hR l2 f2 ⊢
    refine Ev.pos c (Ev.bind hR ?_)
    have := rput_j1 y.1 y.2.1 y.2.2.1 tm nm y.2.2.2 (by omega) f2
    exact this
  · rw [if_neg c]
    refine Ev.neg c ?_
    have := rput_j1 l d f tm nm w (by omega) hf
    rw [if_neg c] at this
    exact this
theorem RPut_ev (l : List S71) (d : Bool) (f : Int) (nm dt : ByteArray) (hl : l.length + 4 < 3518437208883) (hf : f < 9223372036854775808) (hs : ∀ x ∈ l, x.f1.size ≤ 4611686018427387903) (hd : dt.size ≤ 4611686018427387904) (hn : nm.size ≤ 4611686018427387904) :
    Ev (fun k => gafferref04_Put.f k l d f nm dt) (putR l d f nm dt) := by
  unfold gafferref04_Put.f putR
  have hR : Ev (fun k => gafferref02_Read.f k l d f (tmp nm)) (rdR l d (tmp nm)) := RRead_ev l d f (tmp nm) _ (oAt_at (tmp nm) l) (by omega)
  generalize rdR l d (tmp nm) = x at hR ⊢
  refine Ev.pos (by omega) (Ev.bind hR ?_)
  by_cases c : x.2 = 0
  · rw [if_pos c]
    have hD : Ev (fun k => gafferref02_Drop.f k l d f (tmp nm)) (dropR l d f (tmp nm)) := RDrop_ev l d f (tmp nm) _ (oAt_at (tmp nm) l) (by omega) hf
    have l2 := dropR_len l d f (tmp nm)
    have f2 : (dropR l d f (tmp nm)).2.2.1 < 9223372036854775808 := opR_fuse hf
    have m2 := @dropR_mem l d f (tmp nm)
    generalize dropR l d f (tmp nm) = y at hD l2 f2 m2 ⊢
    refine Ev.pos c (Ev.bind hD ?_)
    exact rput_j0 y.1 y.2.1 y.2.2.1 (tmp nm) nm dt y.2.2.2 (by omega) f2 (fun x hx => hs x (m2 x hx)) hd
  · rw [if_neg c]
    refine Ev.neg c ?_
    have := rput_j0 l d f (tmp nm) nm dt 0 (by omega) hf hs hd
    rw [if_pos rfl] at this
    exact this
end Go.Proofs.Ytpigjmjbfpipnaa.Dk
namespace Go.Proofs.Ytpigjmjbfpipnaa.Sn
open Go.RowKit YtpigjmjbfpipnaaW.PrintWords YtpigjmjbfpipnaaW.PrintLast YtpigjmjbfpipnaaW.PrintMore Ytpigjmjbfpipnaa.PF Ba Sh Ytpigjmjbfpipnaa.Op Dk
set_option linter.unusedVariables false
attribute [local instance 10] Classical.propDecidable

theorem rloadSB_ev (s : List UInt8) (hs : s.length ≤ 4611686018427387903) :
    Ev (fun k => (gafferref01_TakeFrame.f k (ba s)).bind fun x => (gafferref05_Decode.f k x.1).bind fun y => if x.2.2 = 0 then (if y.2.2.2.2 = 0 then (if x.2.1.toList = ([] : List UInt8) then some (y.1, y.2.1, y.2.2.1, y.2.2.2.1, (0 : Int)) else some (0, 0, ([] : List Int), (⟨#[]⟩ : ByteArray), 4)) else some (0, 0, ([] : List Int), (⟨#[]⟩ : ByteArray), 4)) else some (0, 0, ([] : List Int), (⟨#[]⟩ : ByteArray), 4)) (loadSB s) := by
  have hlen := takeF_len s
  refine Ev.bind (RTakeFrame_ev s (by omega)) (Ev.bind (RDecode_ev _ (by omega)) ?_)
  unfold loadSB
  show Ev (fun k => if ((takeF s).2.2 : Int) = 0 then (if (decR (takeF s).1).2.2.2.2 = 0 then (if (ba (takeF s).2.1).toList = ([] : List UInt8) then some ((decR (takeF s).1).1, (decR (takeF s).1).2.1, (decR (takeF s).1).2.2.1, (decR (takeF s).1).2.2.2.1, (0 : Int)) else some (0, 0, ([] : List Int), (⟨#[]⟩ : ByteArray), 4)) else some (0, 0, ([] : List Int), (⟨#[]⟩ : ByteArray), 4)) else some (0, 0, ([] : List Int), (⟨#[]⟩ : ByteArray), 4)) _
  rw [ba_list]
  by_cases c1 : (takeF s).2.2 = 0
  · refine Ev.pos (by omega) ?_
    by_cases c2 : (takeF s).2.1 = []
    · have hc : (takeF s).2.2 = 0 ∧ (takeF s).2.1 = [] := ⟨c1, c2⟩
      rw [if_pos hc]
      rcases decR_two (takeF s).1 with e | e
      · generalize decR (takeF s).1 = z at e ⊢
        obtain ⟨z1, z2, z3, z4, z5⟩ := z
        have e : z5 = 0 := e
        subst e
        exact Ev.pos rfl (Ev.pos c2 (Ev.now _))
      · rw [e]
        exact Ev.neg (by simp) (Ev.now _)
    · have hc : ¬ ((takeF s).2.2 = 0 ∧ (takeF s).2.1 = []) := fun h => c2 h.2
      rw [if_neg hc]
      exact Ev.ite (fun _ => Ev.neg c2 (Ev.now _)) (fun _ => Ev.now _)
  · have hc : ¬ ((takeF s).2.2 = 0 ∧ (takeF s).2.1 = []) := fun h => c1 h.1
    rw [if_neg hc]
    exact Ev.neg (by omega) (Ev.now _)
theorem RLoadS_ev (l : List S71) (d : Bool) (f : Int) (hl : l.length < 4611686018427387904) (hs : ∀ x ∈ l, x.f1.size ≤ 4611686018427387903) : Ev (fun k => gafferref05_Load.f k l d f) (loadSR l d) := by
  unfold gafferref05_Load.f loadSR
  have hR : Ev (fun k => gafferref02_Read.f k l d f (⟨#[115, 110, 97, 112]⟩ : ByteArray)) (rdR l d sname) := RRead_ev l d f _ _ (oAt_at (⟨#[115, 110, 97, 112]⟩ : ByteArray) l) hl
  have hz := rdR_size (d := d) (n := sname) hs
  generalize rdR l d sname = x at hR hz ⊢
  refine Ev.bind hR ?_
  obtain ⟨x1, x2⟩ := x
  obtain ⟨s, rfl, hsl⟩ := exists_ba x1
  by_cases c : x2 = 0
  · subst c
    rw [if_pos rfl]
    have := rloadSB_ev s (by rw [hsl]; exact hz)
    rw [show loadSB s = loadSB (ba s).toList by rw [ba_list]] at this
    exact Ev.neg (by show ¬ (0 : Int) = 6; decide) (Ev.pos rfl this)
  · rw [if_neg c]
    by_cases c2 : x2 = 6
    · rw [if_pos c2]; exact Ev.pos c2 (Ev.now _)
    · rw [if_neg c2]; exact Ev.neg c2 (Ev.neg c (Ev.now _))
theorem rsave_j0 (l : List S71) (d : Bool) (f : Int) (i t : Nat) (ms : List Int) (dt : List UInt8) (w : Int) (hi : i < 18446744073709551616) (ht : t < 18446744073709551616) (hok : w = 0 → snapOk i t ms dt) (hl : l.length + 4 < 3518437208883) (hf : f < 9223372036854775808) (hs : ∀ x ∈ l, x.f1.size ≤ 4611686018427387903) :
    Ev (fun k => gafferref05_Save.j0 k w l d f (i : Int) (t : Int) ms (ba dt)) (if w = 0 then putR l d f sname (ba (sfileL i t ms dt)) else noSR l d f w) := by
  refine Ev.step (fun k => rfl) ?_
  simp only [gafferref05_Save.j0]
  by_cases c : w = 0
  · have h := hok c
    obtain ⟨z1, z2⟩ := sfileL_len h
    rw [if_pos c]
    refine Ev.pos c (Ev.step (fun k => rfl) ?_)
    simp only [gafferref05_Save.j1]
    refine Ev.neg (by decide) (Ev.pos c (Ev.bind (RBytes_ev i t ms dt hi ht h) (Ev.bind (RFrame_ev _ (by omega)) ?_)))
    rw [frame_small _ z1]
    refine Ev.bind (Dk.RPut_ev l d f sname _ hl hf hs (by show (ba (sfileL i t ms dt)).size ≤ _; rw [ba_size]; omega) (by show 4 ≤ _; omega)) ?_
    exact Ev.now _
  · rw [if_neg c]
    refine Ev.neg c (Ev.bind (Dk.RCheck_ev l d f (by omega)) (Ev.step (fun k => rfl) ?_))
    simp only [gafferref05_Save.j1]
    unfold noSR
    by_cases hg : Dk.Good l
    · rw [if_pos hg, res_pos hg]
      refine Ev.neg (by simp) (Ev.neg c ?_)
      rw [Copy_at l d f (by omega)]
      exact Ev.bind (Ev.now _) (Ev.now _)
    · rw [if_neg hg, res_neg hg]
      exact Ev.pos (by simp) (Ev.now _)
theorem RSaveS_ev (l : List S71) (d : Bool) (f : Int) (i t : Nat) (ms : List Int) (dt : List UInt8) (hi : i < 18446744073709551616) (ht : t < 18446744073709551616) (hm : ms.length < 4611686018427387904) (hl : l.length + 4 < 3518437208883) (hf : f < 9223372036854775808) (hs : ∀ x ∈ l, x.f1.size ≤ 4611686018427387903) :
    Ev (fun k => gafferref05_Save.f k l d f (i : Int) (t : Int) ms (ba dt)) (saveSR l d f i t ms dt) := by
  unfold gafferref05_Save.f saveSR
  refine Ev.bind (RCheck_ev i t ms dt hm) ?_
  by_cases h : snapOk i t ms dt
  · have hj := fun w => rsave_j0 l d f i t ms dt w hi ht (fun _ => h) hl hf hs
    rw [okR_0 h, if_pos h]
    refine Ev.pos rfl (Ev.bind (RLoadS_ev l d f (by omega) hs) ?_)
    generalize loadSR l d = z
    by_cases c : z.2.2.2.2 = 0
    · rw [if_pos c]
      refine Ev.pos c ?_
      by_cases c2 : z.1 > (i : Int)
      · rw [if_pos c2]
        refine Ev.pos c2 ?_
        have := hj 17
        rwa [if_neg (by decide)] at this
      · rw [if_neg c2]
        refine Ev.neg c2 ?_
        have := hj z.2.2.2.2
        rwa [if_pos c] at this
    · rw [if_neg c]
      refine Ev.neg c ?_
      have := hj z.2.2.2.2
      rwa [if_neg c] at this
  · rw [okR_4 h, if_neg h]
    refine Ev.neg (by decide) ?_
    have := rsave_j0 l d f i t ms dt 4 hi ht (fun e => absurd e (by decide)) hl hf hs
    rwa [if_neg (by decide)] at this
end Go.Proofs.Ytpigjmjbfpipnaa.Sn
