/- A message's check comes to an answer that hangs on its term by one question alone. No condition beside those in each row. -/
import Derived.Test.YtcdibodjkdoknaaPMx4
import Derived.Test.YtcdibodjkdoknaaPMx2
import Derived.Test.YtcdibodjkdoknaaPMx3
import Derived.Test.YtcdibodjkdoknaaPMx12
import Derived.Test.YtcdibodjkdoknaaQmBasem
namespace Go.Proofs.Ytcdibodjkdoknaa.Mg
open Go.RowKit Go.Proofs.YtcdibodjkdoknaaW.PrintWords Go.Proofs.YtcdibodjkdoknaaW.PrintLast Go.Proofs.YtcdibodjkdoknaaW.PrintMore Go.Proofs.Ytcdibodjkdoknaa.PM Go.Proofs.Ytcdibodjkdoknaa.Ba
set_option linter.unusedVariables false

theorem ex_ite {α : Type} {c : Prop} [Decidable c] {f g : Nat → Option α} (h1 : c → ∃ r, Ev f r) (h2 : ¬ c → ∃ r, Ev g r) : ∃ r, Ev (fun k => if c then f k else g k) r := by
  by_cases h : c
  · obtain ⟨r, hr⟩ := h1 h
    exact ⟨r, Ev.pos h hr⟩
  · obtain ⟨r, hr⟩ := h2 h
    exact ⟨r, Ev.neg h hr⟩
theorem ex_bind {α β : Type} {g : Nat → Option α} {f : Nat → α → Option β} {a : α} (h : Ev g a) (k : ∃ r, Ev (fun n => f n a) r) : ∃ r, Ev (fun n => (g n).bind (f n)) r := k.elim fun r hr => ⟨r, Ev.bind h hr⟩
theorem ex_now {α : Type} (r : α) : ∃ r', Ev (fun _ => some r) r' := ⟨r, Ev.now r⟩
theorem lives_ev : Ev (fun k => gafferlaw13_lives.f k) true := Ev.of (k := 300) (fun k => gafferlaw13_lives.mono k) (by decide +kernel)
theorem walCheck_ex (i t q : Int) (d : ByteArray) (ms : List Int) (hm : ms.length < 4611686018427387904) : ∃ c, Ev (fun k => wal_Check.f k i t q d ms) c := by
  have hM := Go.Proofs.Ytcdibodjkdoknaa.Qm.Members_ev ms hm
  have hj : ∀ b, ∃ c, Ev (fun k => wal_Check.j0 k b i t q d ms) c := fun b => by
    refine Exists.elim ?_ (fun c hc => ⟨c, Ev.step (fun k => rfl) hc⟩)
    simp only [wal_Check.j0]
    exact ex_ite (fun _ => ex_ite (fun _ => ex_ite (fun _ => ex_ite (fun _ => ex_now _) (fun _ => ex_now _)) (fun _ => ex_now _)) (fun _ => ex_now _)) (fun _ => ex_ite (fun _ => ex_ite (fun _ => ex_ite (fun _ => ex_now _) (fun _ => ex_now _)) (fun _ => ex_now _)) (fun _ => ex_ite (fun _ => ex_ite (fun _ => ex_ite (fun _ => ex_bind hM (ex_ite (fun _ => ex_now _) (fun _ => ex_now _))) (fun _ => ex_now _)) (fun _ => ex_now _)) (fun _ => ex_now _)))
  unfold wal_Check.f
  exact ex_ite (fun _ => hj _) (fun _ => hj _)
theorem snapCheck_ex (i t : Int) (ms : List Int) (d : ByteArray) (hm : ms.length < 4611686018427387904) : ∃ c, Ev (fun k => snap_Check.f k i t ms d) c := by
  have hM := Go.Proofs.Ytcdibodjkdoknaa.Qm.Members_ev ms hm
  have tail : ∃ c, Ev (fun k => (wal_Members.f k ms).bind fun t111 => (if t111 = true then (if (d.size : Int) > 64512 then (some 4) else (some (0 : Int))) else (some 4))) c := ex_bind hM (ex_ite (fun _ => ex_ite (fun _ => ex_now _) (fun _ => ex_now _)) (fun _ => ex_now _))
  unfold snap_Check.f
  exact ex_ite (fun _ => ex_ite (fun _ => ex_ite (fun _ => ex_ite (fun _ => ex_now _) (fun _ => tail)) (fun _ => tail)) (fun _ => tail)) (fun _ => tail)
theorem loop_ex (l : List S67) (hl : l.length < 4611686018427387904) (hm : ∀ e ∈ l, e.f4.length < 4611686018427387904) (b : Bool) : ∀ (m j : Nat) (at_ : Int), j + m = l.length → ∃ r, Ev (fun k => msg_Check.l0 k b at_ l (l.length : Int) (j : Int)) r ∧ (b = false → r = 4)
  | 0, j, at_, hj => by
    refine ⟨if b = true then 0 else 4, Ev.step (fun k => rfl) ?_, fun h => by rw [h]; rfl⟩
    simp only [msg_Check.l0]
    refine Ev.neg (by omega) ?_
    cases b
    · exact Ev.neg (by decide) (Ev.now _)
    · exact Ev.pos rfl (Ev.now _)
  | m + 1, j, at_, hj => by
    have hlt : j < l.length := by omega
    have hr : rd_T67 l (j : Int) = l[j] := by show l.getD j z67 = _; rw [List.getD_eq_getElem?_getD, List.getElem?_eq_getElem hlt]; rfl
    have hw : wrap64 ((j : Int) + 1) = ((j + 1 : Nat) : Int) := by unfold wrap64; omega
    obtain ⟨c, hc⟩ := walCheck_ex (rd_T67 l (j : Int)).f0 (rd_T67 l (j : Int)).f1 (rd_T67 l (j : Int)).f2 (rd_T67 l (j : Int)).f3 (rd_T67 l (j : Int)).f4 (by rw [hr]; exact hm _ (List.getElem_mem _))
    obtain ⟨r, h1, h2⟩ := loop_ex l hl hm b m (j + 1) (IntKind.u64.wrap (at_ + 1)) (by omega)
    have key : ∀ r', (b = false → r' = 4) → Ev (fun k => if c = 0 then (if ((rd_T67 l (j : Int)).f0) = (IntKind.u64.wrap (at_ + 1)) then (msg_Check.l0 k b (IntKind.u64.wrap (at_ + 1)) l (l.length : Int) ((j + 1 : Nat) : Int)) else (some 4)) else (some 4)) r' → ∃ r, Ev (fun k => msg_Check.l0 k b at_ l (l.length : Int) (j : Int)) r ∧ (b = false → r = 4) := by
      intro r' h4 hE
      refine ⟨r', Ev.step (fun k => rfl) ?_, h4⟩
      simp only [msg_Check.l0]
      rw [hw]
      exact Ev.pos (by omega) (Ev.pos (by omega) (Ev.pos (by omega) (Ev.bind hc hE)))
    by_cases c1 : c = 0
    · by_cases c2 : (rd_T67 l (j : Int)).f0 = IntKind.u64.wrap (at_ + 1)
      · exact key r h2 (Ev.pos c1 (Ev.pos c2 h1))
      · exact key 4 (fun _ => rfl) (Ev.pos c1 (Ev.neg c2 (Ev.now _)))
    · exact key 4 (fun _ => rfl) (Ev.neg c1 (Ev.now _))
/-- Behind the first question: an answer that does not hang on the term. -/
theorem j0_ex (q i lt c : Int) (ok : Bool) (l : List S67) (si st : Int) (ms : List Int) (d : ByteArray) (hl : l.length < 4611686018427387904) (hm : ∀ e ∈ l, e.f4.length < 4611686018427387904) (hs : ms.length < 4611686018427387904) (b : Bool) :
    ∃ r, (∀ t, Ev (fun k => msg_Check.j0 k b q t i lt c ok l si st ms d) r) ∧ (b = false → r = 4) := by
  have h1 : ∀ b, ∃ r, (∀ t, Ev (fun k => msg_Check.j1 k b q t i lt c ok l si st ms d) r) ∧ (b = false → r = 4) := fun b => by
    obtain ⟨r, h, h4⟩ := loop_ex l hl hm b l.length 0 i (by omega)
    refine ⟨r, fun t => Ev.step (fun k => rfl) ?_, h4⟩
    simp only [msg_Check.j1]
    exact h
  have go : ∀ (b2 : Bool), (b = false → b2 = false) → (∀ t, ∀ r, Ev (fun k => msg_Check.j1 k b2 q t i lt c ok l si st ms d) r → Ev (fun k => msg_Check.j0 k b q t i lt c ok l si st ms d) r) → ∃ r, (∀ t, Ev (fun k => msg_Check.j0 k b q t i lt c ok l si st ms d) r) ∧ (b = false → r = 4) := by
    intro b2 hb hE
    obtain ⟨r, h, h4⟩ := h1 b2
    exact ⟨r, fun t => hE t r (h t), fun h0 => h4 (hb h0)⟩
  by_cases c5 : q = 5
  · cases b
    · refine go false id (fun t r h => Ev.step (fun k => rfl) ?_)
      simp only [msg_Check.j0]
      exact Ev.pos c5 (Ev.neg (by decide) h)
    · obtain ⟨v, hv⟩ := snapCheck_ex si st ms d hs
      by_cases c0 : v = 0
      · refine go (decide (si > 0)) (fun h => by cases h) (fun t r h => Ev.step (fun k => rfl) ?_)
        simp only [msg_Check.j0]
        exact Ev.pos c5 (Ev.pos trivial (Ev.bind hv (Ev.pos c0 h)))
      · refine go false (fun h => rfl) (fun t r h => Ev.step (fun k => rfl) ?_)
        simp only [msg_Check.j0]
        exact Ev.pos c5 (Ev.pos trivial (Ev.bind hv (Ev.neg c0 h)))
  · refine go b id (fun t r h => Ev.step (fun k => rfl) ?_)
    simp only [msg_Check.j0]
    exact Ev.neg c5 h
theorem whole_ex (q t i lt c : Int) (ok : Bool) (l : List S67) (si st : Int) (ms : List Int) (d : ByteArray) : ∃ b, ∀ t, msg_whole.f q t i lt c ok l si st ms d = some b := by
  obtain ⟨n, hn⟩ : ∃ n, msg_nothing.f si st ms d = some n := by
    unfold msg_nothing.f
    repeat' split
    all_goals exact ⟨_, rfl⟩
  refine ⟨msg_whole.w q i lt c ok l n, fun t => ?_⟩
  unfold msg_whole.f
  rw [hn]
  rfl
/-- The check's answer: of the term it asks whether it is above 0. -/
theorem check_ex (q i lt c : Int) (ok : Bool) (l : List S67) (si st : Int) (ms : List Int) (d : ByteArray) (hl : l.length < 4611686018427387904) (hm : ∀ e ∈ l, e.f4.length < 4611686018427387904) (hs : ms.length < 4611686018427387904) :
    ∃ r, ∀ t, Ev (fun k => msg_Check.f k q t i lt c ok l si st ms d) (if t > 0 then r else 4) := by
  obtain ⟨rf, hf, hf4⟩ := j0_ex q i lt c ok l si st ms d hl hm hs false
  obtain rfl := hf4 rfl
  obtain ⟨w, hw⟩ := whole_ex q 0 i lt c ok l si st ms d
  have no : (¬ (q > 0 ∧ q < 6) → ∃ r, ∀ t, Ev (fun k => msg_Check.f k q t i lt c ok l si st ms d) (if t > 0 then r else 4)) := fun h => ⟨4, fun t => by
    rw [ite_self]
    unfold msg_Check.f
    exact Ev.ite (fun h1 => Ev.ite (fun h2 => absurd ⟨h1, h2⟩ h) (fun _ => hf t)) (fun _ => hf t)⟩
  by_cases h : q > 0 ∧ q < 6
  · obtain ⟨h1, h2⟩ := h
    cases w
    · refine ⟨4, fun t => ?_⟩
      rw [ite_self]
      unfold msg_Check.f
      rw [hw t]
      exact Ev.pos h1 (Ev.pos h2 (Ev.ite (fun _ => Ev.bind (Ev.now _) (Ev.neg (by decide) (hf t))) (fun _ => hf t)))
    · obtain ⟨r, hr, _⟩ := j0_ex q i lt c ok l si st ms d hl hm hs (decide ((l.length : Int) ≤ 8))
      refine ⟨r, fun t => ?_⟩
      unfold msg_Check.f
      rw [hw t]
      by_cases h3 : t > 0
      · rw [if_pos h3]
        exact Ev.pos h1 (Ev.pos h2 (Ev.pos h3 (Ev.bind (Ev.now _) (Ev.pos rfl (hr t)))))
      · rw [if_neg h3]
        exact Ev.pos h1 (Ev.pos h2 (Ev.neg h3 (hf t)))
  · exact no h
end Go.Proofs.Ytcdibodjkdoknaa.Mg
