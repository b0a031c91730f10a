import Derived.Test.YtcdibodjkdoknaaPMx5
import Derived.Test.YtcdibodjkdoknaaPMx9
import Derived.Test.YtcdibodjkdoknaaPMx11
import Derived.Test.YtcdibodjkdoknaaPMx12
import Derived.Test.YtcdibodjkdoknaaPMx17
import Derived.Test.YtcdibodjkdoknaaPackInvm
namespace Go.Proofs.Ytcdibodjkdoknaa.Sn
open Go.RowKit YtcdibodjkdoknaaW.PrintWords YtcdibodjkdoknaaW.PrintLast YtcdibodjkdoknaaW.PrintMore Ytcdibodjkdoknaa.PM Ba
set_option linter.unusedVariables false

theorem up1 {j : Nat} (hb : j < 4611686018427387904) : wrap64 ((j : Int) + 1) = ((j + 1 : Nat) : Int) := by rw [wrap64_id (by omega) (by omega)]; omega
theorem rd_app (P : List Int) (x : Int) (R : List Int) : rd (P ++ x :: R) (P.length : Int) = x := by
  unfold rd
  rw [Int.toNat_natCast, List.getD_eq_getElem?_getD, List.getElem?_append_right (Nat.le_refl _), Nat.sub_self]
  rfl
theorem app_snoc (P : List Int) (x : Int) (R : List Int) : P ++ x :: R = (P ++ [x]) ++ R := by rw [List.append_assoc]; rfl

def numsL : List Int → List UInt8
  | [] => []
  | m :: r => numL m.toNat ++ numsL r
def intsL (l : List Int) : List UInt8 := numL l.length ++ numsL l
theorem numsL_len : ∀ l : List Int, (numsL l).length ≤ 9 * l.length
  | [] => Nat.le_refl _
  | m :: r => by
    have h1 := numsL_len r
    have h2 := nl_le m.toNat
    rw [numsL, List.length_append, numL_length, List.length_cons]
    omega
theorem Ints_l0 (l : List Int) (h0 : ∀ m ∈ l, 0 ≤ m ∧ m ≤ 7) (hl : l.length ≤ 1000) : ∀ (R P : List Int) (acc : List UInt8), l = P ++ R → acc.length ≤ 9 + 9 * P.length → Ev (fun k => wal_Ints.l0 k (ba acc) l (l.length : Int) (P.length : Int)) (ba (acc ++ numsL R))
  | [], P, acc, e, ha => by
    refine Ev.step (fun k => rfl) ?_
    simp only [wal_Ints.l0]
    rw [numsL, List.append_nil]
    exact Ev.neg (by rw [e, List.append_nil]; omega) (Ev.now _)
  | m :: R, P, acc, e, ha => by
    have hlen : l.length = P.length + (R.length + 1) := by rw [e, List.length_append, List.length_cons]
    have hr : rd l (P.length : Int) = m := by rw [e]; exact rd_app P m R
    have hm := h0 m (by rw [e]; simp)
    have hu : IntKind.u64.wrap m = ((m.toNat : Nat) : Int) := by rw [u64_id hm.1 (by omega)]; omega
    have h9 := nl_le m.toNat
    refine Ev.step (fun k => rfl) ?_
    simp only [wal_Ints.l0]
    rw [hr, hu, up1 (by omega)]
    refine Ev.pos (by omega) (Ev.pos (by omega) (Ev.pos (by omega) (Ev.bind (Number_ev m.toNat (by omega)) (Ev.pos (by rw [ba_size, ba_size, numL_length]; omega) ?_))))
    rw [ba_append]
    have := Ints_l0 l h0 hl R (P ++ [m]) (acc ++ numL m.toNat) (by rw [e, app_snoc]) (by rw [List.length_append, List.length_append, numL_length, List.length_singleton]; omega)
    rw [List.length_append, List.length_singleton, List.append_assoc] at this
    exact this
theorem Ints_ev (l : List Int) (h0 : ∀ m ∈ l, 0 ≤ m ∧ m ≤ 7) (hl : l.length ≤ 1000) : Ev (fun k => wal_Ints.f k l) (ba (intsL l)) := by
  unfold wal_Ints.f
  have h9 := nl_le l.length
  rw [u64_id (by omega) (by omega)]
  refine Ev.bind (Number_ev l.length (by omega)) (Ev.pos (by rw [ba_nil, ba_size, ba_size, numL_length]; simp; omega) ?_)
  rw [ba_nil, ba_append, List.nil_append]
  exact Ints_l0 l h0 hl l [] (numL l.length) rfl (by rw [numL_length]; omega)
theorem RInts_l0 (l : List Int) (h0 : ∀ m ∈ l, 0 ≤ m ∧ m ≤ 7) (hl : l.length ≤ 1000) : ∀ (R P : List Int) (acc : List UInt8), l = P ++ R → acc.length ≤ 9 + 9 * P.length → Ev (fun k => gafferref03_Ints.l0 k (ba acc) l (l.length : Int) (P.length : Int)) (ba (acc ++ numsL R))
  | [], P, acc, e, ha => by
    refine Ev.step (fun k => rfl) ?_
    simp only [gafferref03_Ints.l0]
    rw [numsL, List.append_nil]
    exact Ev.neg (by rw [e, List.append_nil]; omega) (Ev.now _)
  | m :: R, P, acc, e, ha => by
    have hlen : l.length = P.length + (R.length + 1) := by rw [e, List.length_append, List.length_cons]
    have hr : rd l (P.length : Int) = m := by rw [e]; exact rd_app P m R
    have hm := h0 m (by rw [e]; simp)
    have hu : IntKind.u64.wrap m = ((m.toNat : Nat) : Int) := by rw [u64_id hm.1 (by omega)]; omega
    have h9 := nl_le m.toNat
    refine Ev.step (fun k => rfl) ?_
    simp only [gafferref03_Ints.l0]
    rw [hr, hu, up1 (by omega)]
    refine Ev.pos (by omega) (Ev.pos (by omega) (Ev.pos (by omega) (Ev.bind (RNumber_ev m.toNat (by omega)) (Ev.pos (by rw [ba_size, ba_size, numL_length]; omega) ?_))))
    rw [ba_append]
    have := RInts_l0 l h0 hl R (P ++ [m]) (acc ++ numL m.toNat) (by rw [e, app_snoc]) (by rw [List.length_append, List.length_append, numL_length, List.length_singleton]; omega)
    rw [List.length_append, List.length_singleton, List.append_assoc] at this
    exact this
theorem RInts_ev (l : List Int) (h0 : ∀ m ∈ l, 0 ≤ m ∧ m ≤ 7) (hl : l.length ≤ 1000) : Ev (fun k => gafferref03_Ints.f k l) (ba (intsL l)) := by
  unfold gafferref03_Ints.f
  have h9 := nl_le l.length
  rw [u64_id (by omega) (by omega)]
  refine Ev.bind (RNumber_ev l.length (by omega)) ?_
  exact RInts_l0 l h0 hl l [] (numL l.length) rfl (by rw [numL_length]; omega)

/-! Taking -/
def numR (l : List UInt8) (b : Bool) : Nat × List UInt8 × Bool := ((takeN l).1, (takeN l).2.1, b || (takeN l).2.2 != 0)
def txtR (l : List UInt8) (b : Bool) : List UInt8 × List UInt8 × Bool := ((takeT l).1, (takeT l).2.1, b || (takeT l).2.2 != 0)
theorem errB (n : Nat) : ((n : Int) != 0) = (n != 0) := by
  cases n with
  | zero => rfl
  | succ n => rfl
theorem TNumber_ev (l : List UInt8) (b : Bool) (hl : l.length ≤ 4611686018427387904) : Ev (fun k => wal_Taker_Number.f k (ba l) b) (((numR l b).1 : Int), ba (numR l b).2.1, (numR l b).2.2) := by
  unfold wal_Taker_Number.f
  refine Ev.bind (TakeNumber_ev l hl) ?_
  cases b with
  | true => exact Ev.pos rfl (Ev.now _)
  | false =>
    refine Ev.neg (by simp) ?_
    show Ev (fun _ => some (((takeN l).1 : Int), ba (takeN l).2.1, ((takeN l).2.2 : Int) != 0)) _
    rw [errB]
    exact Ev.now _
theorem TText_ev (l : List UInt8) (b : Bool) (hl : l.length ≤ 4611686018427387904) : Ev (fun k => wal_Taker_Text.f k (ba l) b) (ba (txtR l b).1, ba (txtR l b).2.1, (txtR l b).2.2) := by
  unfold wal_Taker_Text.f
  refine Ev.bind (TakeText_ev l hl) ?_
  cases b with
  | true => exact Ev.pos rfl (Ev.now _)
  | false =>
    refine Ev.neg (by simp) ?_
    show Ev (fun _ => some (ba (takeT l).1, ba (takeT l).2.1, ((takeT l).2.2 : Int) != 0)) _
    rw [errB]
    exact Ev.now _
def takeIs : Nat → List Int → List UInt8 → Option (List Int × List UInt8)
  | 0, acc, l => some (acc, l)
  | n + 1, acc, l => if (takeN l).2.2 = 0 ∧ (takeN l).1 ≤ 7 then takeIs n (acc ++ [((takeN l).1 : Int)]) (takeN l).2.1 else none
def takeI (l : List UInt8) : Option (List Int × List UInt8) := if (takeN l).2.2 = 0 ∧ (takeN l).1 ≤ 7 then takeIs (takeN l).1 [] (takeN l).2.1 else none
def okI (x : List Int × List UInt8 × Bool) (o : Option (List Int × List UInt8)) : Prop := match o with | some (a, r) => x = (a, r, false) | none => x.2.2 = true
theorem loop_bad (n : Nat) (acc : List Int) (l : List UInt8) : Ev (fun k => wal_Taker_Ints.l0 k acc (n : Int) (ba l) true) (acc, ba l, true) := by
  refine Ev.step (fun k => rfl) ?_
  simp only [wal_Taker_Ints.l0]
  cases n with
  | zero => exact Ev.neg (by omega) (Ev.now _)
  | succ n => exact Ev.pos (by omega) (Ev.pos (by simp) (Ev.now _))
theorem TInts_l0 : ∀ (n : Nat) (acc : List Int) (l : List UInt8), n ≤ 7 → acc.length + n ≤ 7 → l.length ≤ 4611686018427387904 → ∃ x : List Int × List UInt8 × Bool, Ev (fun k => wal_Taker_Ints.l0 k acc (n : Int) (ba l) false) (x.1, ba x.2.1, x.2.2) ∧ x.2.1.length ≤ l.length ∧ okI x (takeIs n acc l)
  | 0, acc, l, _, _, hl => by
    refine ⟨(acc, l, false), Ev.step (fun k => rfl) ?_, Nat.le_refl _, rfl⟩
    simp only [wal_Taker_Ints.l0]
    exact Ev.neg (by omega) (Ev.now _)
  | n + 1, acc, l, h7, ha, hl => by
    have hlen := takeN_len l
    have hlt := takeN_lt l
    have hu : IntKind.u64.wrap (((n + 1 : Nat) : Int) - 1) = (n : Int) := by rw [u64_id (by omega) (by omega)]; omega
    have hN := TNumber_ev l false hl
    by_cases c : (takeN l).2.2 = 0
    · have hb : (numR l false).2.2 = false := by unfold numR; rw [c]; rfl
      by_cases c7 : (takeN l).1 ≤ 7
      · obtain ⟨x, hx, hx2, hx3⟩ := TInts_l0 n (acc ++ [((takeN l).1 : Int)]) (takeN l).2.1 (by omega) (by rw [List.length_append, List.length_singleton]; omega) (by omega)
        refine ⟨x, Ev.step (fun k => rfl) ?_, by omega, ?_⟩
        · simp only [wal_Taker_Ints.l0]
          rw [hu]
          refine Ev.pos (by omega) (Ev.neg (by simp) (Ev.bind hN ?_))
          show Ev (fun k => if (numR l false).2.2 = true then _ else (if acc.length < 17592186044416 then wal_Taker_Ints.l0 k (acc ++ [wrap64 ((takeN l).1 : Int)]) (n : Int) (ba (takeN l).2.1) (decide (((takeN l).1 : Int) > 7)) else none)) _
          have hw : wrap64 ((takeN l).1 : Int) = ((takeN l).1 : Int) := wrap64_id (by omega) (by omega)
          rw [hb, hw, decide_eq_false (by omega)]
          exact Ev.neg (by simp) (Ev.pos (by omega) hx)
        · rw [takeIs, if_pos ⟨c, c7⟩]; exact hx3
      · refine ⟨(acc ++ [wrap64 ((takeN l).1 : Int)], (takeN l).2.1, true), Ev.step (fun k => rfl) ?_, hlen, ?_⟩
        · simp only [wal_Taker_Ints.l0]
          rw [hu]
          refine Ev.pos (by omega) (Ev.neg (by simp) (Ev.bind hN ?_))
          show Ev (fun k => if (numR l false).2.2 = true then _ else (if acc.length < 17592186044416 then wal_Taker_Ints.l0 k (acc ++ [wrap64 ((takeN l).1 : Int)]) (n : Int) (ba (takeN l).2.1) (decide (((takeN l).1 : Int) > 7)) else none)) _
          rw [hb, decide_eq_true (by omega)]
          exact Ev.neg (by simp) (Ev.pos (by omega) (loop_bad n _ _))
        · rw [takeIs, if_neg (fun h => c7 h.2)]; rfl
    · have hb : (numR l false).2.2 = true := by unfold numR; simpa using c
      refine ⟨(acc ++ [wrap64 ((takeN l).1 : Int)], (takeN l).2.1, true), Ev.step (fun k => rfl) ?_, hlen, ?_⟩
      · simp only [wal_Taker_Ints.l0]
        rw [hu]
        refine Ev.pos (by omega) (Ev.neg (by simp) (Ev.bind hN ?_))
        show Ev (fun k => if (numR l false).2.2 = true then (if acc.length < 17592186044416 then wal_Taker_Ints.l0 k (acc ++ [wrap64 ((takeN l).1 : Int)]) (n : Int) (ba (takeN l).2.1) true else none) else _) _
        rw [hb]
        exact Ev.pos rfl (Ev.pos (by omega) (loop_bad n _ _))
      · rw [takeIs, if_neg (fun h => c h.1)]; rfl
theorem TInts_ev (l : List UInt8) (b : Bool) (hl : l.length ≤ 4611686018427387904) : ∃ x : List Int × List UInt8 × Bool, Ev (fun k => wal_Taker_Ints.f k (ba l) b) (x.1, ba x.2.1, x.2.2) ∧ x.2.1.length ≤ l.length ∧ (b = true → x.2.2 = true) ∧ (b = false → okI x (takeI l)) := by
  have hlen := takeN_len l
  have hlt := takeN_lt l
  have hN := TNumber_ev l b hl
  have hj : ∀ (n : Nat) (r : List UInt8), Ev (fun k => wal_Taker_Ints.j0 k ([] : List Int) (n : Int) (ba r) true) ([], ba r, true) := fun n r => by
    refine Ev.step (fun k => rfl) ?_
    simp only [wal_Taker_Ints.j0]
    exact loop_bad n [] r
  by_cases c : (numR l b).2.2 = true
  · refine ⟨([], (takeN l).2.1, true), ?_, hlen, fun _ => rfl, fun hb => ?_⟩
    · unfold wal_Taker_Ints.f
      refine Ev.bind hN ?_
      exact Ev.pos c (hj (takeN l).1 (takeN l).2.1)
    · subst hb
      have : ¬ (takeN l).2.2 = 0 := by intro e; unfold numR at c; rw [e] at c; simp at c
      unfold takeI
      rw [if_neg (fun h => this h.1)]
      rfl
  · have hbf : b = false ∧ (takeN l).2.2 = 0 := by
      unfold numR at c
      cases b with
      | true => simp at c
      | false => exact ⟨rfl, by simpa using c⟩
    obtain ⟨rfl, c0⟩ := hbf
    by_cases c7 : (takeN l).1 ≤ 7
    · obtain ⟨x, hx, hx2, hx3⟩ := TInts_l0 (takeN l).1 [] (takeN l).2.1 c7 (by simpa using c7) (by omega)
      refine ⟨x, ?_, by omega, fun h => by simp at h, fun _ => by unfold takeI; rw [if_pos ⟨c0, c7⟩]; exact hx3⟩
      unfold wal_Taker_Ints.f
      refine Ev.bind hN (Ev.neg c ?_)
      show Ev (fun k => wal_Taker_Ints.j0 k [] ((takeN l).1 : Int) (ba (takeN l).2.1) (decide (((takeN l).1 : Int) > 7))) _
      rw [decide_eq_false (by omega)]
      refine Ev.step (fun k => rfl) ?_
      simp only [wal_Taker_Ints.j0]
      exact hx
    · refine ⟨([], (takeN l).2.1, true), ?_, hlen, fun _ => rfl, fun _ => by unfold takeI; rw [if_neg (fun h => c7 h.2)]; rfl⟩
      unfold wal_Taker_Ints.f
      refine Ev.bind hN (Ev.neg c ?_)
      show Ev (fun k => wal_Taker_Ints.j0 k [] ((takeN l).1 : Int) (ba (takeN l).2.1) (decide (((takeN l).1 : Int) > 7))) _
      rw [decide_eq_true (by omega)]
      exact hj _ _
def rI (o : Option (List Int × List UInt8)) : List Int × ByteArray × Bool := match o with | some (a, r) => (a, ba r, true) | none => ([], ba [], false)
theorem RTInts_l0 (N : Nat) (hN : N ≤ 7) : ∀ (n j : Nat) (acc : List Int) (l : List UInt8), j + n = N → acc.length + n ≤ 7 → l.length ≤ 4611686018427387904 → Ev (fun k => gafferref03_TakeInts.l0 k (N : Int) (ba l) acc (j : Int)) (rI (takeIs n acc l))
  | 0, j, acc, l, hj, _, hl => by
    refine Ev.step (fun k => rfl) ?_
    simp only [gafferref03_TakeInts.l0]
    exact Ev.neg (by omega) (Ev.now _)
  | n + 1, j, acc, l, hj, ha, hl => by
    have hlen := takeN_len l
    have hlt := takeN_lt l
    have hu : IntKind.u64.wrap ((j : Int) + 1) = ((j + 1 : Nat) : Int) := by rw [u64_id (by omega) (by omega)]; omega
    refine Ev.step (fun k => rfl) ?_
    simp only [gafferref03_TakeInts.l0]
    rw [hu]
    refine Ev.pos (by omega) (Ev.bind (RTakeNumber_ev l hl) ?_)
    show Ev (fun k => if ((takeN l).2.2 : Int) = 0 then (if ((takeN l).1 : Int) > 7 then some (([] : List Int), (⟨#[]⟩ : ByteArray), false) else (if acc.length < 17592186044416 then gafferref03_TakeInts.l0 k (N : Int) (ba (takeN l).2.1) (acc ++ [wrap64 ((takeN l).1 : Int)]) ((j + 1 : Nat) : Int) else none)) else some (([] : List Int), (⟨#[]⟩ : ByteArray), false)) _
    rw [takeIs]
    by_cases c : (takeN l).2.2 = 0
    · refine Ev.pos (by omega) ?_
      by_cases c7 : (takeN l).1 ≤ 7
      · rw [if_pos ⟨c, c7⟩, wrap64_id (by omega) (by omega)]
        exact Ev.neg (by omega) (Ev.pos (by omega) (RTInts_l0 N hN n (j + 1) _ _ (by omega) (by rw [List.length_append, List.length_singleton]; omega) (by omega)))
      · rw [if_neg (fun h => c7 h.2)]
        exact Ev.pos (by omega) (Ev.now _)
    · rw [if_neg (fun h => c h.1)]
      exact Ev.neg (by omega) (Ev.now _)
theorem RTInts_ev (l : List UInt8) (hl : l.length ≤ 4611686018427387904) : Ev (fun k => gafferref03_TakeInts.f k (ba l)) (rI (takeI l)) := by
  have hlen := takeN_len l
  unfold gafferref03_TakeInts.f takeI
  refine Ev.bind (RTakeNumber_ev l hl) ?_
  show Ev (fun k => if ((takeN l).2.2 : Int) = 0 then gafferref03_TakeInts.j0 k ((takeN l).1 : Int) (ba (takeN l).2.1) (decide (((takeN l).1 : Int) > 7)) else gafferref03_TakeInts.j0 k ((takeN l).1 : Int) (ba (takeN l).2.1) true) _
  by_cases c : (takeN l).2.2 = 0
  · refine Ev.pos (by omega) (Ev.step (fun k => rfl) ?_)
    simp only [gafferref03_TakeInts.j0]
    by_cases c7 : (takeN l).1 ≤ 7
    · rw [if_pos ⟨c, c7⟩, decide_eq_false (by omega)]
      exact Ev.neg (by simp) (RTInts_l0 (takeN l).1 c7 (takeN l).1 0 [] (takeN l).2.1 (by omega) (by simpa using c7) (by omega))
    · rw [if_neg (fun h => c7 h.2), decide_eq_true (by omega)]
      exact Ev.pos (by simp) (Ev.now _)
  · rw [if_neg (fun h => c h.1)]
    refine Ev.neg (by omega) (Ev.step (fun k => rfl) ?_)
    simp only [gafferref03_TakeInts.j0]
    exact Ev.pos (by simp) (Ev.now _)
/-! there and back -/
theorem takeIs_inv : ∀ (n : Nat) (acc : List Int) (l : List UInt8) (a : List Int) (r : List UInt8), takeIs n acc l = some (a, r) → ∃ q : List Int, a = acc ++ q ∧ q.length = n ∧ l = numsL q ++ r ∧ ∀ m ∈ q, 0 ≤ m ∧ m ≤ 7
  | 0, acc, l, a, r, h => by
    rw [takeIs] at h
    obtain ⟨rfl, rfl⟩ := Prod.mk.inj (Option.some.inj h)
    exact ⟨[], by rw [List.append_nil], rfl, rfl, by simp⟩
  | n + 1, acc, l, a, r, h => by
    rw [takeIs] at h
    by_cases c : (takeN l).2.2 = 0 ∧ (takeN l).1 ≤ 7
    · rw [if_pos c] at h
      obtain ⟨q, h1, h2, h3, h4⟩ := takeIs_inv n _ _ a r h
      refine ⟨((takeN l).1 : Int) :: q, ?_, by rw [List.length_cons, h2], ?_, ?_⟩
      · rw [h1, List.append_assoc]; rfl
      · rw [numsL, Int.toNat_natCast, List.append_assoc, ← h3]
        exact takeN_inv (by rw [← c.1])
      · intro m hm
        rcases List.mem_cons.1 hm with rfl | hm
        · exact ⟨Int.natCast_nonneg _, by have := c.2; omega⟩
        · exact h4 m hm
    · rw [if_neg c] at h; cases h
theorem takeI_inv {l : List UInt8} {a : List Int} {r : List UInt8} (h : takeI l = some (a, r)) : l = intsL a ++ r ∧ a.length ≤ 7 ∧ (∀ m ∈ a, 0 ≤ m ∧ m ≤ 7) := by
  unfold takeI at h
  by_cases c : (takeN l).2.2 = 0 ∧ (takeN l).1 ≤ 7
  · rw [if_pos c] at h
    obtain ⟨q, h1, h2, h3, h4⟩ := takeIs_inv _ _ _ a r h
    rw [List.nil_append] at h1
    subst h1
    refine ⟨?_, by rw [h2]; exact c.2, h4⟩
    unfold intsL
    rw [h2, List.append_assoc, ← h3]
    exact takeN_inv (by rw [← c.1])
  · rw [if_neg c] at h; cases h
theorem takeI_len {l : List UInt8} {a : List Int} {r : List UInt8} (h : takeI l = some (a, r)) : r.length ≤ l.length := by
  rw [(takeI_inv h).1, List.length_append]; omega
end Go.Proofs.Ytcdibodjkdoknaa.Sn
