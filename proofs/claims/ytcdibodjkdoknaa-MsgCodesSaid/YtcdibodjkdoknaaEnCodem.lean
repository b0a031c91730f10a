import Derived.Test.YtcdibodjkdoknaaPMx3
import Derived.Test.YtcdibodjkdoknaaPMx14
import Derived.Test.YtcdibodjkdoknaaPMx5
import Derived.Test.YtcdibodjkdoknaaSnIntsm
import Derived.Test.YtcdibodjkdoknaaQmBasem
import Derived.Test.YtcdibodjkdoknaaSnCodem
namespace Go.Proofs.Ytcdibodjkdoknaa.Wl
open Go.RowKit YtcdibodjkdoknaaW.PrintWords YtcdibodjkdoknaaW.PrintLast YtcdibodjkdoknaaW.PrintMore Ytcdibodjkdoknaa.PM Ba Sn
open Qm (memB Members_ev)
set_option linter.unusedVariables false
set_option linter.unusedSimpArgs false
attribute [local instance 10] Classical.propDecidable

def walOk (i q : Int) (d : List UInt8) (ms : List Int) : Prop := i > 0 ∧ d.length ≤ 4096 ∧ ((q = 1 ∧ d = [] ∧ ms = []) ∨ (q = 2 ∧ ms = []) ∨ (q = 3 ∧ d = [] ∧ memB 0 ms = true))
noncomputable def walR (i q : Int) (d : List UInt8) (ms : List Int) : Int := if walOk i q d ms then 0 else 4
theorem walR_0 {i q : Int} {d : List UInt8} {ms : List Int} (h : walOk i q d ms) : walR i q d ms = 0 := if_pos h
theorem walR_4 {i q : Int} {d : List UInt8} {ms : List Int} (h : ¬ walOk i q d ms) : walR i q d ms = 4 := if_neg h
theorem walOk_mem {i q : Int} {d : List UInt8} {ms : List Int} (h : walOk i q d ms) : (∀ m ∈ ms, 0 ≤ m ∧ m ≤ 7) ∧ ms.length ≤ 7 ∧ d.length ≤ 4096 ∧ 0 < q ∧ q < 4 := by
  obtain ⟨_, h2, h3⟩ := h
  rcases h3 with ⟨rfl, rfl, rfl⟩ | ⟨rfl, rfl⟩ | ⟨rfl, rfl, h3⟩
  · simp
  · simp; exact h2
  · obtain ⟨h4, h5⟩ := mem_of ms 0 (by omega) h3
    exact ⟨h4, by have := h5 (by omega); omega, h2, by omega, by omega⟩
theorem nil_len {α : Type} {l : List α} : ((l.length : Int) = 0) ↔ l = [] := ⟨fun h => List.eq_nil_of_length_eq_zero (by omega), fun h => by rw [h]; rfl⟩
theorem Check_j0 (b : Bool) (i t q : Int) (d : List UInt8) (ms : List Int) (hm : ms.length < 4611686018427387904) (hb : b = true ↔ (i > 0 ∧ d.length ≤ 4096)) : Ev (fun k => wal_Check.j0 k b i t q (ba d) ms) (walR i q d ms) := by
  refine Ev.step (fun k => rfl) ?_
  simp only [wal_Check.j0]
  rw [ba_list]
  have no : ¬ walOk i q d ms → Ev (fun _ => some (4 : Int)) (walR i q d ms) := fun h => by rw [walR_4 h]; exact Ev.now _
  have yes : walOk i q d ms → Ev (fun _ => some (0 : Int)) (walR i q d ms) := fun h => by rw [walR_0 h]; exact Ev.now _
  have nb : ¬ b = true → ¬ walOk i q d ms := fun h w => h (hb.2 ⟨w.1, w.2.1⟩)
  refine Ev.ite (fun q1 => ?_) (fun q1 => Ev.ite (fun q2 => ?_) (fun q2 => Ev.ite (fun q3 => ?_) (fun q3 => no (fun w => by rcases w.2.2 with h | h | h <;> omega))))
  · refine Ev.ite (fun c => Ev.ite (fun c2 => Ev.ite (fun c3 => yes ⟨(hb.1 c).1, (hb.1 c).2, .inl ⟨q1, c2, nil_len.1 c3⟩⟩) (fun c3 => no (fun w => c3 (nil_len.2 ?_)))) (fun c2 => no (fun w => c2 ?_))) (fun c => no (nb c))
    · rcases w.2.2 with h | h | h
      · exact h.2.2
      · omega
      · omega
    · rcases w.2.2 with h | h | h
      · exact h.2.1
      · omega
      · omega
  · refine Ev.ite (fun c => Ev.ite (fun c3 => yes ⟨(hb.1 c).1, (hb.1 c).2, .inr (.inl ⟨q2, nil_len.1 c3⟩)⟩) (fun c3 => no (fun w => c3 (nil_len.2 ?_)))) (fun c => no (nb c))
    rcases w.2.2 with h | h | h
    · omega
    · exact h.2
    · omega
  · refine Ev.ite (fun c => Ev.ite (fun c2 => Ev.bind (Members_ev ms hm) (Ev.ite (fun c3 => yes ⟨(hb.1 c).1, (hb.1 c).2, .inr (.inr ⟨q3, c2, c3⟩)⟩) (fun c3 => no (fun w => c3 ?_)))) (fun c2 => no (fun w => c2 ?_))) (fun c => no (nb c))
    · rcases w.2.2 with h | h | h
      · omega
      · omega
      · exact h.2.2
    · rcases w.2.2 with h | h | h
      · omega
      · omega
      · exact h.2.1
theorem Check_ev (i t q : Int) (d : List UInt8) (ms : List Int) (hm : ms.length < 4611686018427387904) : Ev (fun k => wal_Check.f k i t q (ba d) ms) (walR i q d ms) := by
  unfold wal_Check.f
  rw [ba_size]
  refine Ev.ite (fun c => Check_j0 _ i t q d ms hm ?_) (fun c => Check_j0 _ i t q d ms hm ?_)
  · rw [decide_eq_true_iff]; exact ⟨fun h => ⟨c, by omega⟩, fun h => by omega⟩
  · exact ⟨fun h => (by cases h), fun h => absurd h.1 c⟩
structure En where
  i : Nat
  t : Nat
  q : Nat
  d : List UInt8
  ms : List Int
  r : List UInt8
noncomputable def takeE (l : List UInt8) : Option En :=
  if (takeN l).2.2 = 0 then
    if (takeN (takeN l).2.1).2.2 = 0 then
      if (takeN (takeN (takeN l).2.1).2.1).2.2 = 0 ∧ (takeN (takeN (takeN l).2.1).2.1).1 < 4 then
        if (takeT (takeN (takeN (takeN l).2.1).2.1).2.1).2.2 = 0 then
          match takeI (takeT (takeN (takeN (takeN l).2.1).2.1).2.1).2.1 with
          | some (ms, r) => if walOk (takeN l).1 (takeN (takeN (takeN l).2.1).2.1).1 (takeT (takeN (takeN (takeN l).2.1).2.1).2.1).1 ms then some ⟨(takeN l).1, (takeN (takeN l).2.1).1, (takeN (takeN (takeN l).2.1).2.1).1, (takeT (takeN (takeN (takeN l).2.1).2.1).2.1).1, ms, r⟩ else none
          | none => none
        else none
      else none
    else none
  else none
noncomputable def decE (l : List UInt8) : Int × Int × Int × ByteArray × List Int × Int :=
  match takeE l with
  | some x => if x.r = [] then ((x.i : Int), (x.t : Int), (x.q : Int), ba x.d, x.ms, 0) else (0, 0, 0, ba [], [], 4)
  | none => (0, 0, 0, ba [], [], 4)
def okE (x : Int × Int × Int × ByteArray × List Int × List UInt8 × Bool) (o : Option En) : Prop := match o with | some s => x = ((s.i : Int), (s.t : Int), (s.q : Int), ba s.d, s.ms, s.r, false) | none => x.2.2.2.2.2.2 = true
def tailE (i t q : Int) (l : List UInt8) (b : Bool) (k : Nat) : Option (Int × Int × Int × ByteArray × List Int × ByteArray × Bool) := (wal_Taker_Text.f k (ba l) b).bind fun bt204 => ((wal_Taker_Ints.f k bt204.2.1 bt204.2.2).bind fun bt207 => (if bt207.2.2 = true then (some (i, t, q, bt204.1, bt207.1, bt207.2.1, true)) else ((wal_Check.f k i t q bt204.1 bt207.1).bind fun t212 => (some (i, t, q, bt204.1, bt207.1, bt207.2.1, (t212 != 0))))))
theorem or_true_r (b : Bool) : (b || true) = true := by cases b <;> rfl
theorem TEntry_ev (l : List UInt8) (hl : l.length ≤ 4611686018427387903) : ∃ x : Int × Int × Int × ByteArray × List Int × List UInt8 × Bool, Ev (fun k => wal_Taker_Entry.f k (ba l) false) (x.1, x.2.1, x.2.2.1, x.2.2.2.1, x.2.2.2.2.1, ba x.2.2.2.2.2.1, x.2.2.2.2.2.2) ∧ okE x (takeE l) := by
  have n1 := takeN_len l
  have n2 := takeN_len (takeN l).2.1
  have n3 := takeN_len (takeN (takeN l).2.1).2.1
  have n4 := takeT_len (takeN (takeN (takeN l).2.1).2.1).2.1
  have hN1 := TNumber_ev l false (by omega)
  have hN2 := TNumber_ev (takeN l).2.1 (numR l false).2.2 (by omega)
  have hN3 := TNumber_ev (takeN (takeN l).2.1).2.1 (numR (takeN l).2.1 (numR l false).2.2).2.2 (by omega)
  have hT := fun b => TText_ev (takeN (takeN (takeN l).2.1).2.1).2.1 b (by omega)
  have hlt := takeN_lt (takeN (takeN l).2.1).2.1
  generalize hb3 : (numR (takeN (takeN l).2.1).2.1 (numR (takeN l).2.1 (numR l false).2.2).2.2).2.2 = b3 at hN3
  -- whatever was bad ahead of the text: all is bad
  have bad : ∀ b : Bool, b = true → takeE l = none → (∀ x, Ev (tailE ((takeN l).1 : Int) ((takeN (takeN l).2.1).1 : Int) (((takeN (takeN (takeN l).2.1).2.1).1 : Int) % 256) (takeN (takeN (takeN l).2.1).2.1).2.1 b) x → Ev (fun k => wal_Taker_Entry.f k (ba l) false) x) → ∃ x : Int × Int × Int × ByteArray × List Int × List UInt8 × Bool, Ev (fun k => wal_Taker_Entry.f k (ba l) false) (x.1, x.2.1, x.2.2.1, x.2.2.2.1, x.2.2.2.2.1, ba x.2.2.2.2.2.1, x.2.2.2.2.2.2) ∧ okE x (takeE l) := by
    intro b hb ht go
    subst hb
    obtain ⟨y, hy, hy2, hy3, hy4⟩ := TInts_ev (takeT (takeN (takeN (takeN l).2.1).2.1).2.1).2.1 (txtR (takeN (takeN (takeN l).2.1).2.1).2.1 true).2.2 (by omega)
    have hyb := hy3 rfl
    refine ⟨(((takeN l).1 : Int), ((takeN (takeN l).2.1).1 : Int), ((takeN (takeN (takeN l).2.1).2.1).1 : Int) % 256, ba (takeT (takeN (takeN (takeN l).2.1).2.1).2.1).1, y.1, y.2.1, true), go _ (Ev.bind (hT true) (Ev.bind hy (Ev.pos hyb (Ev.now _)))), ?_⟩
    rw [ht]
    exact rfl
  by_cases c3 : b3 = true
  · refine bad true rfl ?_ (fun x hx => ?_)
    · unfold takeE
      by_cases d1 : (takeN l).2.2 = 0
      · rw [if_pos d1]
        by_cases d2 : (takeN (takeN l).2.1).2.2 = 0
        · rw [if_pos d2, if_neg]
          rintro ⟨d3, _⟩
          unfold numR at hb3
          rw [d1, d2, d3] at hb3
          rw [← hb3] at c3
          exact absurd c3 (by simp)
        · rw [if_neg d2]
      · rw [if_neg d1]
    · unfold wal_Taker_Entry.f
      exact Ev.bind hN1 (Ev.bind hN2 (Ev.bind hN3 (Ev.pos c3 hx)))
  · have hz : (takeN l).2.2 = 0 ∧ (takeN (takeN l).2.1).2.2 = 0 ∧ (takeN (takeN (takeN l).2.1).2.1).2.2 = 0 := by
      have := Bool.eq_false_iff.mpr c3
      rw [← hb3] at this
      unfold numR at this
      simp only [Bool.false_or, Bool.or_eq_false_iff, bne_eq_false_iff_eq] at this
      exact ⟨this.1.1, this.1.2, this.2⟩
    have go : ∀ x, Ev (tailE ((takeN l).1 : Int) ((takeN (takeN l).2.1).1 : Int) (((takeN (takeN (takeN l).2.1).2.1).1 : Int) % 256) (takeN (takeN (takeN l).2.1).2.1).2.1 (decide (((takeN (takeN (takeN l).2.1).2.1).1 : Int) ≥ 4))) x → Ev (fun k => wal_Taker_Entry.f k (ba l) false) x := fun x hx => by
      unfold wal_Taker_Entry.f
      exact Ev.bind hN1 (Ev.bind hN2 (Ev.bind hN3 (Ev.neg c3 hx)))
    by_cases c4 : (takeN (takeN (takeN l).2.1).2.1).1 < 4
    · have hd : decide (((takeN (takeN (takeN l).2.1).2.1).1 : Int) ≥ 4) = false := decide_eq_false (by omega)
      have hm : (((takeN (takeN (takeN l).2.1).2.1).1 : Int)) % 256 = ((takeN (takeN (takeN l).2.1).2.1).1 : Int) := by omega
      rw [hd] at go
      obtain ⟨y, hy, hy2, hy3, hy4⟩ := TInts_ev (takeT (takeN (takeN (takeN l).2.1).2.1).2.1).2.1 (txtR (takeN (takeN (takeN l).2.1).2.1).2.1 false).2.2 (by omega)
      have hE : takeE l = if (takeT (takeN (takeN (takeN l).2.1).2.1).2.1).2.2 = 0 then (match takeI (takeT (takeN (takeN (takeN l).2.1).2.1).2.1).2.1 with | some (ms, r) => if walOk (takeN l).1 (takeN (takeN (takeN l).2.1).2.1).1 (takeT (takeN (takeN (takeN l).2.1).2.1).2.1).1 ms then some ⟨(takeN l).1, (takeN (takeN l).2.1).1, (takeN (takeN (takeN l).2.1).2.1).1, (takeT (takeN (takeN (takeN l).2.1).2.1).2.1).1, ms, r⟩ else none | none => none) else none := by
        unfold takeE
        rw [if_pos hz.1, if_pos hz.2.1, if_pos ⟨hz.2.2, c4⟩]
      by_cases cb : y.2.2 = true
      · refine ⟨(((takeN l).1 : Int), ((takeN (takeN l).2.1).1 : Int), ((takeN (takeN (takeN l).2.1).2.1).1 : Int) % 256, ba (takeT (takeN (takeN (takeN l).2.1).2.1).2.1).1, y.1, y.2.1, true), go _ (Ev.bind (hT false) (Ev.bind hy (Ev.pos cb (Ev.now _)))), ?_⟩
        rw [hE]
        by_cases c5 : (takeT (takeN (takeN (takeN l).2.1).2.1).2.1).2.2 = 0
        · rw [if_pos c5]
          have h4 := hy4 (by unfold txtR; rw [c5]; rfl)
          cases hq : takeI (takeT (takeN (takeN (takeN l).2.1).2.1).2.1).2.1 with
          | none => exact rfl
          | some z =>
            obtain ⟨a, r⟩ := z
            rw [hq] at h4
            have h5 : y = (a, r, false) := h4
            rw [h5] at cb
            cases cb
        · rw [if_neg c5]; exact rfl
      · have cf := Bool.eq_false_iff.mpr cb
        have ht : (txtR (takeN (takeN (takeN l).2.1).2.1).2.1 false).2.2 = false := by
          cases hq : (txtR (takeN (takeN (takeN l).2.1).2.1).2.1 false).2.2 with
          | true => exact absurd (hy3 hq) cb
          | false => rfl
        have c5 : (takeT (takeN (takeN (takeN l).2.1).2.1).2.1).2.2 = 0 := by
          unfold txtR at ht
          simpa using ht
        have h4 := hy4 ht
        rw [if_pos c5] at hE
        cases hq : takeI (takeT (takeN (takeN (takeN l).2.1).2.1).2.1).2.1 with
        | none => rw [hq] at h4; exact absurd h4 cb
        | some z =>
          obtain ⟨a, r⟩ := z
          rw [hq] at h4
          have h5 : y = (a, r, false) := h4
          subst h5
          have hC := Check_ev (takeN l).1 (takeN (takeN l).2.1).1 (takeN (takeN (takeN l).2.1).2.1).1 (takeT (takeN (takeN (takeN l).2.1).2.1).2.1).1 a (by have := (takeI_inv hq).2.1; omega)
          rw [hq] at hE
          dsimp only at hE
          refine ⟨(((takeN l).1 : Int), ((takeN (takeN l).2.1).1 : Int), ((takeN (takeN (takeN l).2.1).2.1).1 : Int) % 256, ba (takeT (takeN (takeN (takeN l).2.1).2.1).2.1).1, a, r, (walR (takeN l).1 (takeN (takeN (takeN l).2.1).2.1).1 (takeT (takeN (takeN (takeN l).2.1).2.1).2.1).1 a != 0)), go _ (Ev.bind (hT false) (Ev.bind hy (Ev.neg (by simp) (Ev.bind (by rw [hm]; exact hC) (Ev.now _))))), ?_⟩
          rw [hE, hm]
          by_cases hk : walOk (takeN l).1 (takeN (takeN (takeN l).2.1).2.1).1 (takeT (takeN (takeN (takeN l).2.1).2.1).2.1).1 a
          · rw [if_pos hk, walR_0 hk]; exact rfl
          · rw [if_neg hk, walR_4 hk]; exact rfl
    · refine bad _ (decide_eq_true (by omega : ((takeN (takeN (takeN l).2.1).2.1).1 : Int) ≥ 4)) ?_ go
      unfold takeE
      rw [if_pos hz.1, if_pos hz.2.1, if_neg (fun h => c4 h.2)]
theorem DecodeE_ev (l : List UInt8) (hl : l.length ≤ 4611686018427387903) : Ev (fun k => wal_Decode.f k (ba l)) (decE l) := by
  obtain ⟨x, hx, hk⟩ := TEntry_ev l hl
  unfold wal_Decode.f decE
  refine Ev.bind hx ?_
  cases hq : takeE l with
  | none =>
    rw [hq] at hk
    exact Ev.pos hk (Ev.now _)
  | some s =>
    rw [hq] at hk
    have hk' : x = ((s.i : Int), (s.t : Int), (s.q : Int), ba s.d, s.ms, s.r, false) := hk
    subst hk'
    refine Ev.neg (by simp) ?_
    show Ev (fun _ => if (ba s.r).toList = ([] : List UInt8) then some ((s.i : Int), (s.t : Int), (s.q : Int), ba s.d, s.ms, (0 : Int)) else some (0, 0, 0, (⟨#[]⟩ : ByteArray), ([] : List Int), 4)) (if s.r = [] then ((s.i : Int), (s.t : Int), (s.q : Int), ba s.d, s.ms, (0 : Int)) else (0, 0, 0, ba [], [], 4))
    by_cases c : s.r = []
    · rw [if_pos c]; exact Ev.pos (by rw [ba_list]; exact c) (Ev.now _)
    · rw [if_neg c]; exact Ev.neg (by rw [ba_list]; exact c) (Ev.now _)
end Go.Proofs.Ytcdibodjkdoknaa.Wl
