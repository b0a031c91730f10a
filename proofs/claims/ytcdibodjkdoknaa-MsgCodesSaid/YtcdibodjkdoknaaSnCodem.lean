import Derived.Test.YtcdibodjkdoknaaPMx3
import Derived.Test.YtcdibodjkdoknaaPMx5
import Derived.Test.YtcdibodjkdoknaaPMx13
import Derived.Test.YtcdibodjkdoknaaPMx14
import Derived.Test.YtcdibodjkdoknaaPMx6
import Derived.Test.YtcdibodjkdoknaaPMx7
import Derived.Test.YtcdibodjkdoknaaPMx9
import Derived.Test.YtcdibodjkdoknaaPMx18
import Derived.Test.YtcdibodjkdoknaaSnIntsm
import Derived.Test.YtcdibodjkdoknaaQmBasem
import Derived.Test.YtcdibodjkdoknaaQmRefm
namespace Go.Proofs.Ytcdibodjkdoknaa.Sn
open Go.RowKit YtcdibodjkdoknaaW.PrintWords YtcdibodjkdoknaaW.PrintLast YtcdibodjkdoknaaW.PrintMore Ytcdibodjkdoknaa.PM Ba
open Qm (memB Members_ev)
set_option linter.unusedVariables false
attribute [local instance 10] Classical.propDecidable

theorem mem_of : ∀ (l : List Int) (p : Int), 0 ≤ p → memB p l = true → (∀ m ∈ l, 0 ≤ m ∧ m ≤ 7) ∧ (p ≤ 7 → (l.length : Int) ≤ 7 - p)
  | [], p, hp, h => ⟨by simp, fun h7 => by simp; omega⟩
  | x :: r, p, hp, h => by
    rw [memB] at h
    by_cases h1 : x ≤ p
    · rw [if_pos h1] at h; cases h
    · rw [if_neg h1] at h
      by_cases h2 : x > 7
      · rw [if_pos h2] at h; cases h
      · rw [if_neg h2] at h
        obtain ⟨h3, h4⟩ := mem_of r x (by omega) h
        refine ⟨fun m hm => ?_, fun h7 => ?_⟩
        · rcases List.mem_cons.1 hm with rfl | hm
          · omega
          · exact h3 m hm
        · have := h4 (by omega)
          rw [List.length_cons]
          omega
def snapOk (i t : Int) (ms : List Int) (d : List UInt8) : Prop := (i = 0 ∧ t = 0 ∧ ms = [] ∧ d = []) ∨ (memB 0 ms = true ∧ d.length ≤ 64512)
theorem ok_mem {i t : Int} {ms : List Int} {d : List UInt8} (h : snapOk i t ms d) : (∀ m ∈ ms, 0 ≤ m ∧ m ≤ 7) ∧ ms.length ≤ 7 ∧ d.length ≤ 64512 := by
  rcases h with ⟨_, _, rfl, rfl⟩ | ⟨h, h2⟩
  · simp
  · obtain ⟨h3, h4⟩ := mem_of ms 0 (by omega) h
    exact ⟨h3, by have := h4 (by omega); omega, h2⟩
noncomputable def okR (i t : Int) (ms : List Int) (d : List UInt8) : Int := if snapOk i t ms d then 0 else 4
theorem okR_0 {i t : Int} {ms : List Int} {d : List UInt8} (h : snapOk i t ms d) : okR i t ms d = 0 := by unfold okR; exact if_pos h
theorem okR_4 {i t : Int} {ms : List Int} {d : List UInt8} (h : ¬ snapOk i t ms d) : okR i t ms d = 4 := by unfold okR; exact if_neg h
theorem Check_ev (i t : Int) (ms : List Int) (d : List UInt8) (hm : ms.length < 4611686018427387904) : Ev (fun k => snap_Check.f k i t ms (ba d)) (okR i t ms d) := by
  have hM := Members_ev ms hm
  have tail : ¬ (i = 0 ∧ t = 0 ∧ ms = [] ∧ d = []) → Ev (fun k => (wal_Members.f k ms).bind fun t103 => (if t103 = true then (if ((ba d).size : Int) > 64512 then (some 4) else (some (0 : Int))) else (some 4))) (okR i t ms d) := by
    intro hn
    refine Ev.bind hM ?_
    rw [ba_size]
    by_cases h1 : memB 0 ms = true
    · refine Ev.pos h1 ?_
      by_cases h2 : d.length ≤ 64512
      · rw [okR_0 (.inr ⟨h1, h2⟩)]; exact Ev.neg (by omega) (Ev.now _)
      · rw [okR_4 (fun h => h.elim hn (fun h => h2 h.2))]; exact Ev.pos (by omega) (Ev.now _)
    · rw [okR_4 (fun h => h.elim hn (fun h => h1 h.1))]; exact Ev.neg h1 (Ev.now _)
  unfold snap_Check.f
  by_cases h1 : i = 0
  · refine Ev.pos h1 ?_
    by_cases h2 : t = 0
    · refine Ev.pos h2 ?_
      by_cases h3 : ms = []
      · refine Ev.pos (by rw [h3]; rfl) ?_
        by_cases h4 : d = []
        · refine Ev.pos (by rw [ba_list, h4]) ?_
          rw [okR_0 (.inl ⟨h1, h2, h3, h4⟩)]
          exact Ev.now _
        · exact Ev.neg (by rw [ba_list]; exact h4) (tail (fun h => h4 h.2.2.2))
      · refine Ev.neg ?_ (tail (fun h => h3 h.2.2.1))
        intro h
        exact h3 (List.eq_nil_of_length_eq_zero (by omega))
    · exact Ev.neg h2 (tail (fun h => h2 h.2.1))
  · exact Ev.neg h1 (tail (fun h => h1 h.1))
theorem RCheck_ev (i t : Int) (ms : List Int) (d : List UInt8) (hm : ms.length < 4611686018427387904) : Ev (fun k => gafferref05_Check.f k i t ms (ba d)) (okR i t ms d) := by
  have hM := Go.Proofs.Ytcdibodjkdoknaa.Qm.RMembers_ev ms hm
  have hno : gafferref05_nothing.f i t ms (ba d) = some (decide (i = 0 ∧ t = 0 ∧ ms = [] ∧ d = [])) := by
    unfold gafferref05_nothing.f
    by_cases h1 : i = 0
    · rw [if_pos h1]
      by_cases h2 : t = 0
      · rw [if_pos h2]
        by_cases h3 : ms = []
        · rw [if_pos (by rw [h3]; rfl), ba_list]
          by_cases h4 : d = []
          · rw [h4, decide_eq_true ⟨h1, h2, h3, rfl⟩]; rfl
          · rw [decide_eq_false (fun h => h4 h.2.2.2)]
            congr 1
            exact beq_eq_false_iff_ne.mpr h4
        · rw [if_neg (fun h => h3 (List.eq_nil_of_length_eq_zero (by omega))), decide_eq_false (fun h => h3 h.2.2.1)]
      · rw [if_neg h2, decide_eq_false (fun h => h2 h.2.1)]
    · rw [if_neg h1, decide_eq_false (fun h => h1 h.1)]
  unfold gafferref05_Check.f
  rw [hno]
  refine Ev.bind (Ev.now _) ?_
  by_cases h0 : i = 0 ∧ t = 0 ∧ ms = [] ∧ d = []
  · rw [okR_0 (.inl h0)]
    exact Ev.pos (decide_eq_true h0) (Ev.now _)
  · refine Ev.neg (by rw [decide_eq_false h0]; simp) (Ev.bind hM ?_)
    rw [ba_size]
    by_cases h1 : memB 0 ms = true
    · refine Ev.pos h1 ?_
      by_cases h2 : d.length ≤ 64512
      · rw [okR_0 (.inr ⟨h1, h2⟩)]; exact Ev.pos (by omega) (Ev.now _)
      · rw [okR_4 (fun h => h.elim h0 (fun h => h2 h.2))]; exact Ev.neg (by omega) (Ev.now _)
    · rw [okR_4 (fun h => h.elim h0 (fun h => h1 h.1))]; exact Ev.neg h1 (Ev.now _)
def snapL (i t : Nat) (ms : List Int) (d : List UInt8) : List UInt8 := numL i ++ (numL t ++ (intsL ms ++ textL d))
theorem intsL_len (ms : List Int) (h : ms.length ≤ 7) : (intsL ms).length ≤ 72 := by
  unfold intsL
  rw [List.length_append, numL_length]
  have := numsL_len ms; have := nl_le ms.length
  omega
theorem textL_len (d : List UInt8) : (textL d).length ≤ d.length + 9 := by
  unfold textL
  rw [List.length_append, numL_length]
  have := nl_le d.length
  omega
theorem snapL_len (i t : Nat) (ms : List Int) (d : List UInt8) (h : ms.length ≤ 7) : (snapL i t ms d).length ≤ d.length + 99 := by
  unfold snapL
  rw [List.length_append, List.length_append, List.length_append, numL_length, numL_length]
  have := intsL_len ms h; have := textL_len d; have := nl_le i; have := nl_le t
  omega
theorem Bytes_ev (i t : Nat) (ms : List Int) (d : List UInt8) (hi : i < 18446744073709551616) (ht : t < 18446744073709551616) (h : snapOk i t ms d) : Ev (fun k => snap_Bytes.f k (i : Int) (t : Int) ms (ba d)) (ba (snapL i t ms d)) := by
  obtain ⟨h1, h2, h3⟩ := ok_mem h
  have l1 := nl_le i; have l2 := nl_le t; have l3 := intsL_len ms h2; have l4 := textL_len d
  unfold snap_Bytes.f
  refine Ev.bind (Number_ev i hi) (Ev.bind (Number_ev t ht) (Ev.pos (by rw [ba_size, ba_size, numL_length, numL_length]; omega) (Ev.bind (Ints_ev ms h1 (by omega)) (Ev.pos (by rw [ba_append, ba_size, ba_size, List.length_append, numL_length, numL_length]; omega) (Ev.bind (Text_ev d (by omega)) (Ev.pos (by rw [ba_append, ba_append, ba_size, ba_size, List.length_append, List.length_append, numL_length, numL_length]; omega) ?_))))))
  rw [ba_append, ba_append, ba_append, List.append_assoc, List.append_assoc]
  exact Ev.now _
theorem RBytes_ev (i t : Nat) (ms : List Int) (d : List UInt8) (hi : i < 18446744073709551616) (ht : t < 18446744073709551616) (h : snapOk i t ms d) : Ev (fun k => gafferref05_Bytes.f k (i : Int) (t : Int) ms (ba d)) (ba (snapL i t ms d)) := by
  obtain ⟨h1, h2, h3⟩ := ok_mem h
  have l1 := nl_le i; have l2 := nl_le t; have l3 := intsL_len ms h2; have l4 := textL_len d
  unfold gafferref05_Bytes.f
  refine Ev.bind (RNumber_ev i hi) (Ev.bind (RNumber_ev t ht) (Ev.pos (by rw [ba_size, ba_size, numL_length, numL_length]; omega) (Ev.bind (RInts_ev ms h1 (by omega)) (Ev.pos (by rw [ba_append, ba_size, ba_size, List.length_append, numL_length, numL_length]; omega) (Ev.bind (RText_ev d (by omega)) (Ev.pos (by rw [ba_append, ba_append, ba_size, ba_size, List.length_append, List.length_append, numL_length, numL_length]; omega) ?_))))))
  rw [ba_append, ba_append, ba_append, List.append_assoc, List.append_assoc]
  exact Ev.now _
structure Sn where
  i : Nat
  t : Nat
  ms : List Int
  d : List UInt8
  r : List UInt8
noncomputable def takeS (l : List UInt8) : Option Sn :=
  if (takeN l).2.2 = 0 then
    if (takeN (takeN l).2.1).2.2 = 0 then
      match takeI (takeN (takeN l).2.1).2.1 with
      | some (ms, r) => if (takeT r).2.2 = 0 then (if snapOk (takeN l).1 (takeN (takeN l).2.1).1 ms (takeT r).1 then some ⟨(takeN l).1, (takeN (takeN l).2.1).1, ms, (takeT r).1, (takeT r).2.1⟩ else none) else none
      | none => none
    else none
  else none
noncomputable def decR (l : List UInt8) : Int × Int × List Int × ByteArray × Int :=
  match takeS l with
  | some x => if x.r = [] then ((x.i : Int), (x.t : Int), x.ms, ba x.d, 0) else (0, 0, [], ba [], 4)
  | none => (0, 0, [], ba [], 4)
theorem takeT_len (l : List UInt8) : (takeT l).2.1.length ≤ l.length := by
  have := takeN_len l
  unfold Ba.takeT
  repeat' split
  all_goals first | exact Nat.zero_le _ | (simp only [List.length_drop]; omega)
def okS (x : Int × Int × List Int × ByteArray × List UInt8 × Bool) (o : Option Sn) : Prop := match o with | some s => x = ((s.i : Int), (s.t : Int), s.ms, ba s.d, s.r, false) | none => x.2.2.2.2.2 = true
theorem TSnap_ev (l : List UInt8) (hl : l.length ≤ 4611686018427387903) : ∃ x : Int × Int × List Int × ByteArray × List UInt8 × Bool, Ev (fun k => snap_Taker_Snap.f k (ba l) false) (x.1, x.2.1, x.2.2.1, x.2.2.2.1, ba x.2.2.2.2.1, x.2.2.2.2.2) ∧ okS x (takeS l) := by
  have n1 := takeN_len l
  have n2 := takeN_len (takeN l).2.1
  obtain ⟨y, hy, hy2, hy3, hy4⟩ := TInts_ev (takeN (takeN l).2.1).2.1 (numR (takeN l).2.1 (numR l false).2.2).2.2 (by omega)
  have hT := TText_ev y.2.1 y.2.2 (by omega)
  have hmsl : y.1.length < 4611686018427387904 ∨ (txtR y.2.1 y.2.2).2.2 = true := by
    by_cases hb : y.2.2 = true
    · exact .inr (by unfold txtR; rw [hb]; rfl)
    · refine .inl ?_
      have hf : (numR (takeN l).2.1 (numR l false).2.2).2.2 = false := by
        cases hq : (numR (takeN l).2.1 (numR l false).2.2).2.2 with
        | true => exact absurd (hy3 hq) hb
        | false => rfl
      have h4 := hy4 hf
      cases hq : takeI (takeN (takeN l).2.1).2.1 with
      | none => rw [hq] at h4; exact absurd h4 hb
      | some z =>
        obtain ⟨a, r⟩ := z
        rw [hq] at h4
        have h5 : y = (a, r, false) := h4
        have := (takeI_inv hq).2.1
        rw [h5]
        show a.length < _
        omega
  by_cases hb : (txtR y.2.1 y.2.2).2.2 = true
  · refine ⟨(((takeN l).1 : Int), ((takeN (takeN l).2.1).1 : Int), y.1, ba (takeT y.2.1).1, (takeT y.2.1).2.1, true), ?_, ?_⟩
    · unfold snap_Taker_Snap.f
      refine Ev.bind (TNumber_ev l false (by omega)) (Ev.bind (TNumber_ev _ _ (by show (takeN l).2.1.length ≤ _; omega)) (Ev.bind hy (Ev.bind hT (Ev.pos hb (Ev.now _)))))
    · have : takeS l = none := by
        unfold takeS
        by_cases c1 : (takeN l).2.2 = 0
        · rw [if_pos c1]
          by_cases c2 : (takeN (takeN l).2.1).2.2 = 0
          · rw [if_pos c2]
            have hf : (numR (takeN l).2.1 (numR l false).2.2).2.2 = false := by unfold numR; rw [c1, c2]; rfl
            have h4 := hy4 hf
            cases hq : takeI (takeN (takeN l).2.1).2.1 with
            | none => rfl
            | some z =>
              obtain ⟨a, r⟩ := z
              rw [hq] at h4
              have h5 : y = (a, r, false) := h4
              rw [h5] at hb
              show (if (takeT r).2.2 = 0 then _ else none) = none
              rw [if_neg]
              intro h
              unfold txtR at hb
              rw [h] at hb
              simp at hb
          · rw [if_neg c2]
        · rw [if_neg c1]
      rw [this]
      exact rfl
  · have hml := hmsl.resolve_right hb
    -- nothing was bad: all was there
    have hyb : y.2.2 = false ∧ (takeT y.2.1).2.2 = 0 := by
      unfold txtR at hb
      cases hq : y.2.2 with
      | true => rw [hq] at hb; exact absurd rfl hb
      | false => exact ⟨rfl, by rw [hq] at hb; simpa using hb⟩
    have hf : (numR (takeN l).2.1 (numR l false).2.2).2.2 = false := by
      cases hq : (numR (takeN l).2.1 (numR l false).2.2).2.2 with
      | true => rw [hy3 hq] at hyb; exact absurd hyb.1 (by simp)
      | false => rfl
    have hc : (takeN l).2.2 = 0 ∧ (takeN (takeN l).2.1).2.2 = 0 := by
      unfold numR at hf
      simp only [Bool.false_or, Bool.or_eq_false_iff, bne_eq_false_iff_eq] at hf
      exact hf
    have h4 := hy4 hf
    cases hq : takeI (takeN (takeN l).2.1).2.1 with
    | none => rw [hq] at h4; rw [show y.2.2 = true from h4] at hyb; exact absurd hyb.1 (by simp)
    | some z =>
      obtain ⟨a, r⟩ := z
      rw [hq] at h4
      have h5 : y = (a, r, false) := h4
      subst h5
      have hC := Check_ev (takeN l).1 (takeN (takeN l).2.1).1 a (takeT r).1 hml
      have hS : takeS l = if snapOk (takeN l).1 (takeN (takeN l).2.1).1 a (takeT r).1 then some ⟨(takeN l).1, (takeN (takeN l).2.1).1, a, (takeT r).1, (takeT r).2.1⟩ else none := by
        unfold takeS
        rw [if_pos hc.1, if_pos hc.2, hq]
        show (if (takeT r).2.2 = 0 then _ else none) = _
        rw [if_pos hyb.2]
      refine ⟨(((takeN l).1 : Int), ((takeN (takeN l).2.1).1 : Int), a, ba (takeT r).1, (takeT r).2.1, okR (takeN l).1 (takeN (takeN l).2.1).1 a (takeT r).1 != 0), ?_, ?_⟩
      · unfold snap_Taker_Snap.f
        refine Ev.bind (TNumber_ev l false (by omega)) (Ev.bind (TNumber_ev _ _ (by show (takeN l).2.1.length ≤ _; omega)) (Ev.bind hy (Ev.bind hT (Ev.neg hb (Ev.bind hC (Ev.now _))))))
      · rw [hS]
        unfold okR
        by_cases hk : snapOk (takeN l).1 (takeN (takeN l).2.1).1 a (takeT r).1
        · rw [if_pos hk, if_pos hk]; exact rfl
        · rw [if_neg hk, if_neg hk]; exact rfl
theorem Decode_ev (l : List UInt8) (hl : l.length ≤ 4611686018427387903) : Ev (fun k => snap_Decode.f k (ba l)) (decR l) := by
  obtain ⟨x, hx, hk⟩ := TSnap_ev l hl
  unfold snap_Decode.f decR
  refine Ev.bind hx ?_
  cases hq : takeS l with
  | none =>
    rw [hq] at hk
    exact Ev.pos hk (Ev.now _)
  | some s =>
    rw [hq] at hk
    have hk' : x = ((s.i : Int), (s.t : Int), s.ms, ba s.d, s.r, false) := hk
    subst hk'
    refine Ev.neg (by simp) ?_
    show Ev (fun _ => if (ba s.r).toList = ([] : List UInt8) then some ((s.i : Int), (s.t : Int), s.ms, ba s.d, (0 : Int)) else some (0, 0, ([] : List Int), (⟨#[]⟩ : ByteArray), 4)) (if s.r = [] then ((s.i : Int), (s.t : Int), s.ms, ba s.d, (0 : Int)) else (0, 0, [], ba [], 4))
    by_cases c : s.r = []
    · rw [if_pos c]; exact Ev.pos (by rw [ba_list]; exact c) (Ev.now _)
    · rw [if_neg c]; exact Ev.neg (by rw [ba_list]; exact c) (Ev.now _)
noncomputable def rS (o : Option Sn) : Int × Int × List Int × ByteArray × ByteArray × Bool := match o with | some s => ((s.i : Int), (s.t : Int), s.ms, ba s.d, ba s.r, true) | none => (0, 0, [], ba [], ba [], false)
theorem RTake_ev (l : List UInt8) (hl : l.length ≤ 4611686018427387903) : Ev (fun k => gafferref05_Take.f k (ba l)) (rS (takeS l)) := by
  have n1 := takeN_len l
  have n2 := takeN_len (takeN l).2.1
  have hbad : ∀ (P : Prop), Ev (fun _ => some ((0 : Int), (0 : Int), ([] : List Int), (⟨#[]⟩ : ByteArray), (⟨#[]⟩ : ByteArray), false)) (rS none) := fun _ => Ev.now _
  unfold gafferref05_Take.f
  have hr : (rI (takeI (takeN (takeN l).2.1).2.1)).2.1 = ba (match takeI (takeN (takeN l).2.1).2.1 with | some (_, r) => r | none => []) := by
    cases takeI (takeN (takeN l).2.1).2.1 with
    | none => rfl
    | some z => rfl
  have hrl : (match takeI (takeN (takeN l).2.1).2.1 with | some (_, r) => r | none => []).length ≤ l.length := by
    cases hq : takeI (takeN (takeN l).2.1).2.1 with
    | none => exact Nat.zero_le _
    | some z =>
      obtain ⟨a, r⟩ := z
      have := takeI_len hq
      show r.length ≤ _
      omega
  have hT := RTakeText_ev (match takeI (takeN (takeN l).2.1).2.1 with | some (_, r) => r | none => []) (by omega)
  rw [← hr] at hT
  refine Ev.bind (RTakeNumber_ev l (by omega)) (Ev.bind (RTakeNumber_ev _ (by omega)) (Ev.bind (RTInts_ev _ (by omega)) (Ev.bind hT ?_)))
  unfold takeS
  by_cases c1 : (takeN l).2.2 = 0
  · rw [if_pos c1]
    refine Ev.pos (by show ((takeN l).2.2 : Int) = 0; omega) ?_
    by_cases c2 : (takeN (takeN l).2.1).2.2 = 0
    · rw [if_pos c2]
      refine Ev.pos (by show ((takeN (takeN l).2.1).2.2 : Int) = 0; omega) ?_
      cases hq : takeI (takeN (takeN l).2.1).2.1 with
      | none => exact Ev.neg (by rw [rI]; simp) (hbad True)
      | some z =>
        obtain ⟨a, r⟩ := z
        refine Ev.pos rfl ?_
        show Ev (fun k => if ((takeT r).2.2 : Int) = 0 then (gafferref05_Check.f k ((takeN l).1 : Int) ((takeN (takeN l).2.1).1 : Int) a (ba (takeT r).1)).bind fun t230 => (if t230 = 0 then (some (((takeN l).1 : Int), ((takeN (takeN l).2.1).1 : Int), a, ba (takeT r).1, ba (takeT r).2.1, true)) else (some (0, 0, ([] : List Int), (⟨#[]⟩ : ByteArray), (⟨#[]⟩ : ByteArray), false))) else some (0, 0, ([] : List Int), (⟨#[]⟩ : ByteArray), (⟨#[]⟩ : ByteArray), false)) (rS (if (takeT r).2.2 = 0 then (if snapOk (takeN l).1 (takeN (takeN l).2.1).1 a (takeT r).1 then some ⟨(takeN l).1, (takeN (takeN l).2.1).1, a, (takeT r).1, (takeT r).2.1⟩ else none) else none))
        by_cases c3 : (takeT r).2.2 = 0
        · rw [if_pos c3]
          have := (takeI_inv hq).2.1
          refine Ev.pos (by omega) (Ev.bind (RCheck_ev _ _ a _ (by omega)) ?_)
          unfold okR
          by_cases hk : snapOk (takeN l).1 (takeN (takeN l).2.1).1 a (takeT r).1
          · rw [if_pos hk, if_pos hk]; exact Ev.pos rfl (Ev.now _)
          · rw [if_neg hk, if_neg hk]; exact Ev.neg (by decide) (Ev.now _)
        · rw [if_neg c3]
          exact Ev.neg (by omega) (hbad True)
    · rw [if_neg c2]
      exact Ev.neg (by show ¬ ((takeN (takeN l).2.1).2.2 : Int) = 0; omega) (hbad True)
  · rw [if_neg c1]
    exact Ev.neg (by show ¬ ((takeN l).2.2 : Int) = 0; omega) (hbad True)
theorem RDecode_ev (l : List UInt8) (hl : l.length ≤ 4611686018427387903) : Ev (fun k => gafferref05_Decode.f k (ba l)) (decR l) := by
  unfold gafferref05_Decode.f decR
  refine Ev.bind (RTake_ev l hl) ?_
  cases hq : takeS l with
  | none => exact Ev.neg (by rw [rS]; simp) (Ev.now _)
  | some s =>
    refine Ev.pos rfl ?_
    show Ev (fun _ => if (ba s.r).toList = ([] : List UInt8) then some ((s.i : Int), (s.t : Int), s.ms, ba s.d, (0 : Int)) else some (0, 0, ([] : List Int), (⟨#[]⟩ : ByteArray), 4)) (if s.r = [] then ((s.i : Int), (s.t : Int), s.ms, ba s.d, (0 : Int)) else (0, 0, [], ba [], 4))
    by_cases c : s.r = []
    · rw [if_pos c]; exact Ev.pos (by rw [ba_list]; exact c) (Ev.now _)
    · rw [if_neg c]; exact Ev.neg (by rw [ba_list]; exact c) (Ev.now _)

/-! One and the same -/
theorem decR_len (l : List UInt8) : (decR l).2.2.1.length ≤ 7 := by
  unfold decR
  cases hq : takeS l with
  | none => simp
  | some s =>
    show (if s.r = [] then ((s.i : Int), (s.t : Int), s.ms, ba s.d, (0 : Int)) else (0, 0, [], ba [], 4)).2.2.1.length ≤ 7
    split
    · have : snapOk s.i s.t s.ms s.d := by
        unfold takeS at hq
        repeat' split at hq
        all_goals first | (cases hq; done) | skip
        all_goals (obtain rfl := Option.some.inj hq; assumption)
      exact (ok_mem this).2.1
    · simp
/-! there and back -/
theorem takeS_inv {l : List UInt8} {s : Sn} (h : takeS l = some s) : l = snapL s.i s.t s.ms s.d ++ s.r ∧ snapOk s.i s.t s.ms s.d ∧ s.i < 18446744073709551616 ∧ s.t < 18446744073709551616 := by
  unfold takeS at h
  by_cases c1 : (takeN l).2.2 = 0
  · rw [if_pos c1] at h
    by_cases c2 : (takeN (takeN l).2.1).2.2 = 0
    · rw [if_pos c2] at h
      cases hq : takeI (takeN (takeN l).2.1).2.1 with
      | none => rw [hq] at h; cases h
      | some z =>
        obtain ⟨a, r⟩ := z
        rw [hq] at h
        dsimp only at h
        by_cases c3 : (takeT r).2.2 = 0
        · rw [if_pos c3] at h
          by_cases hk : snapOk (takeN l).1 (takeN (takeN l).2.1).1 a (takeT r).1
          · rw [if_pos hk] at h
            obtain rfl := Option.some.inj h
            refine ⟨?_, hk, takeN_lt l, takeN_lt _⟩
            have i1 := takeN_inv (l := l) (by rw [← c1])
            have i2 := takeN_inv (l := (takeN l).2.1) (by rw [← c2])
            have i3 := (takeI_inv hq).1
            have i4 := (takeT_inv (l := r) (by rw [← c3])).1
            show l = snapL (takeN l).1 (takeN (takeN l).2.1).1 a (takeT r).1 ++ (takeT r).2.1
            unfold snapL
            rw [List.append_assoc, List.append_assoc, List.append_assoc, ← i4, ← i3, ← i2, ← i1]
          · rw [if_neg hk] at h; cases h
        · rw [if_neg c3] at h; cases h
    · rw [if_neg c2] at h; cases h
  · rw [if_neg c1] at h; cases h
end Go.Proofs.Ytcdibodjkdoknaa.Sn
