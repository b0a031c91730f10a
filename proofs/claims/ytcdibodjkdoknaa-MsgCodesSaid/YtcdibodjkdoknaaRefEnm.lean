import Derived.Test.YtcdibodjkdoknaaPMx7
import Derived.Test.YtcdibodjkdoknaaPMx17
import Derived.Test.YtcdibodjkdoknaaSnIntsm
import Derived.Test.YtcdibodjkdoknaaQmBasem
import Derived.Test.YtcdibodjkdoknaaQmRefm
import Derived.Test.YtcdibodjkdoknaaSnCodem
import Derived.Test.YtcdibodjkdoknaaEnCodem
namespace Go.Proofs.Ytcdibodjkdoknaa.Wl
open Go.RowKit YtcdibodjkdoknaaW.PrintWords YtcdibodjkdoknaaW.PrintLast YtcdibodjkdoknaaW.PrintMore Ytcdibodjkdoknaa.PM Ba Sn
open Qm (memB RMembers_ev)
set_option linter.unusedVariables false
set_option linter.unusedSimpArgs false
attribute [local instance 10] Classical.propDecidable

def pre (i q : Int) (d : List UInt8) : Prop := i > 0 ∧ q > 0 ∧ q < 4 ∧ (q = 2 ∨ d = []) ∧ d.length ≤ 4096
theorem pre_of {i q : Int} {d : List UInt8} {ms : List Int} (w : walOk i q d ms) : pre i q d := by
  obtain ⟨h1, h2, h3⟩ := w
  rcases h3 with h | h | h
  · exact ⟨h1, by omega, by omega, .inr h.2.1, h2⟩
  · exact ⟨h1, by omega, by omega, .inl h.1, h2⟩
  · exact ⟨h1, by omega, by omega, .inr h.2.1, h2⟩
theorem RECheck_j0 (b : Bool) (i t q : Int) (d : List UInt8) (ms : List Int) (hm : ms.length < 4611686018427387904) (hb : b = true ↔ pre i q d) : Ev (fun k => gafferref03_Check.j0 k b i t q (ba d) ms) (walR i q d ms) := by
  refine Ev.step (fun k => rfl) ?_
  simp only [gafferref03_Check.j0]
  have no : ¬ walOk i q d ms → Ev (fun _ => some (4 : Int)) (walR i q d ms) := fun h => by rw [walR_4 h]; exact Ev.now _
  have yes : walOk i q d ms → Ev (fun _ => some (0 : Int)) (walR i q d ms) := fun h => by rw [walR_0 h]; exact Ev.now _
  have nb : ¬ b = true → ¬ walOk i q d ms := fun h w => h (hb.2 (pre_of w))
  refine Ev.ite (fun q3 => Ev.ite (fun c => Ev.bind (RMembers_ev ms hm) (Ev.ite (fun c3 => yes ?_) (fun c3 => no (fun w => c3 ?_)))) (fun c => no (nb c))) (fun q3 => Ev.ite (fun c => Ev.ite (fun c2 => yes ?_) (fun c2 => no (fun w => c2 (nil_len.2 ?_)))) (fun c => no (nb c)))
  · obtain ⟨p1, p2, p3, p4, p5⟩ := hb.1 c
    exact ⟨p1, p5, .inr (.inr ⟨q3, p4.elim (fun h => by omega) id, c3⟩)⟩
  · rcases w.2.2 with h | h | h
    · omega
    · omega
    · exact h.2.2
  · obtain ⟨p1, p2, p3, p4, p5⟩ := hb.1 c
    have hn := nil_len.1 c2
    rcases Decidable.em (q = 2) with h | h
    · exact ⟨p1, p5, .inr (.inl ⟨h, hn⟩)⟩
    · exact ⟨p1, p5, .inl ⟨by omega, p4.elim (fun e => absurd e h) id, hn⟩⟩
  · rcases w.2.2 with h | h | h
    · exact h.2.2
    · exact h.2
    · omega
theorem RECheck_ev (i t q : Int) (d : List UInt8) (ms : List Int) (hm : ms.length < 4611686018427387904) : Ev (fun k => gafferref03_Check.f k i t q (ba d) ms) (walR i q d ms) := by
  unfold gafferref03_Check.f
  rw [ba_size, ba_list]
  have F : ¬ pre i q d → Ev (fun k => gafferref03_Check.j0 k false i t q (ba d) ms) (walR i q d ms) := fun h => RECheck_j0 _ i t q d ms hm ⟨fun e => (by cases e), fun e => absurd e h⟩
  have T : i > 0 → q > 0 → q < 4 → (q = 2 ∨ d = []) → Ev (fun k => gafferref03_Check.j0 k (decide ((d.length : Int) ≤ 4096)) i t q (ba d) ms) (walR i q d ms) := fun a b c e => RECheck_j0 _ i t q d ms hm (by rw [decide_eq_true_iff]; exact ⟨fun h => ⟨a, b, c, e, by omega⟩, fun h => by have := h.2.2.2.2; omega⟩)
  exact Ev.ite (fun c1 => Ev.ite (fun c2 => Ev.ite (fun c3 => Ev.ite (fun c4 => T c1 c2 c3 (.inl c4)) (fun c4 => Ev.ite (fun c5 => T c1 c2 c3 (.inr c5)) (fun c5 => F (fun h => h.2.2.2.1.elim c4 c5)))) (fun c3 => F (fun h => c3 h.2.2.1))) (fun c2 => F (fun h => c2 h.2.1))) (fun c1 => F (fun h => c1 h.1))
noncomputable def rE (o : Option En) : Int × Int × Int × ByteArray × List Int × ByteArray × Bool := match o with | some s => ((s.i : Int), (s.t : Int), (s.q : Int), ba s.d, s.ms, ba s.r, true) | none => (0, 0, 0, ba [], [], ba [], false)
theorem rI_len (l : List UInt8) : (rI (takeI l)).1.length ≤ 7 := by
  cases hq : takeI l with
  | none => exact Nat.zero_le _
  | some z => exact (takeI_inv (a := z.1) (r := z.2) hq).2.1
theorem RETake_ev (l : List UInt8) (hl : l.length ≤ 4611686018427387903) : Ev (fun k => gafferref03_Take.f k (ba l)) (rE (takeE l)) := by
  have n1 := takeN_len l
  have n2 := takeN_len (takeN l).2.1
  have n3 := takeN_len (takeN (takeN l).2.1).2.1
  have n4 := takeT_len (takeN (takeN (takeN l).2.1).2.1).2.1
  have hbad : ∀ (P : Prop), Ev (fun _ => some ((0 : Int), (0 : Int), (0 : Int), (⟨#[]⟩ : ByteArray), ([] : List Int), (⟨#[]⟩ : ByteArray), false)) (rE none) := fun _ => Ev.now _
  unfold gafferref03_Take.f
  refine Ev.bind (RTakeNumber_ev l (by omega)) (Ev.bind (RTakeNumber_ev _ (by omega)) (Ev.bind (RTakeNumber_ev _ (by omega)) (Ev.bind (RTakeText_ev _ (by omega)) (Ev.bind (RTInts_ev _ (by omega)) ?_))))
  have hI := rI_len (takeT (takeN (takeN (takeN l).2.1).2.1).2.1).2.1
  unfold takeE
  generalize (takeN (takeN l).2.1).2.1 = l2 at *
  by_cases c1 : (takeN l).2.2 = 0
  · rw [if_pos c1]
    refine Ev.pos (by show ((takeN l).2.2 : Int) = 0; omega) ?_
    by_cases c2 : (takeN (takeN l).2.1).2.2 = 0
    · rw [if_pos c2]
      refine Ev.pos (by show ((takeN (takeN l).2.1).2.2 : Int) = 0; omega) ?_
      by_cases c3 : (takeN l2).2.2 = 0
      · refine Ev.pos (by show ((takeN l2).2.2 : Int) = 0; omega) ?_
        by_cases q4 : (takeN l2).1 < 4
        · rw [if_pos ⟨c3, q4⟩]
          by_cases c4 : (takeT (takeN l2).2.1).2.2 = 0
          · rw [if_pos c4]
            refine Ev.pos (by show ((takeT (takeN l2).2.1).2.2 : Int) = 0; omega) ?_
            cases hq : takeI (takeT (takeN l2).2.1).2.1 with
            | none => exact Ev.neg (by rw [rI]; simp) (hbad True)
            | some z =>
              obtain ⟨a, r⟩ := z
              refine Ev.pos rfl (Ev.neg (by show ¬ ((takeN l2).1 : Int) > 255; omega) ?_)
              have hm : ((takeN l2).1 : Int) % 256 = ((takeN l2).1 : Int) := by omega
              show Ev (fun k => (gafferref03_Check.f k ((takeN l).1 : Int) ((takeN (takeN l).2.1).1 : Int) (((takeN l2).1 : Int) % 256) (ba (takeT (takeN l2).2.1).1) a).bind fun t => (if t = 0 then (some (((takeN l).1 : Int), ((takeN (takeN l).2.1).1 : Int), ((takeN l2).1 : Int) % 256, ba (takeT (takeN l2).2.1).1, a, ba r, true)) else (some (0, 0, 0, (⟨#[]⟩ : ByteArray), ([] : List Int), (⟨#[]⟩ : ByteArray), false)))) _
              rw [hm]
              have := (takeI_inv hq).2.1
              refine Ev.bind (RECheck_ev _ _ _ _ a (by omega)) ?_
              dsimp only
              by_cases hk : walOk (takeN l).1 (takeN l2).1 (takeT (takeN l2).2.1).1 a
              · rw [if_pos hk, walR_0 hk]; exact Ev.pos rfl (Ev.now _)
              · rw [if_neg hk, walR_4 hk]; exact Ev.neg (by decide) (Ev.now _)
          · rw [if_neg c4]
            exact Ev.neg (by show ¬ ((takeT (takeN l2).2.1).2.2 : Int) = 0; omega) (hbad True)
        · rw [if_neg (fun h => q4 h.2)]
          refine Ev.ite (fun c4 => Ev.ite (fun c5 => Ev.ite (fun c6 => hbad True) (fun c6 => ?_)) (fun c5 => hbad True)) (fun c4 => hbad True)
          replace c6 : ¬ ((takeN l2).1 : Int) > 255 := c6
          have hm : ((takeN l2).1 : Int) % 256 = ((takeN l2).1 : Int) := by omega
          show Ev (fun k => (gafferref03_Check.f k ((takeN l).1 : Int) ((takeN (takeN l).2.1).1 : Int) (((takeN l2).1 : Int) % 256) (ba (takeT (takeN l2).2.1).1) (rI (takeI (takeT (takeN l2).2.1).2.1)).1).bind fun t => (if t = 0 then _ else (some (0, 0, 0, (⟨#[]⟩ : ByteArray), ([] : List Int), (⟨#[]⟩ : ByteArray), false)))) _
          rw [hm]
          refine Ev.bind (RECheck_ev _ _ _ _ _ (by omega)) ?_
          rw [walR_4 (fun w => by have := (walOk_mem w).2.2.2.2; omega)]
          exact Ev.neg (by decide) (hbad True)
      · rw [if_neg (fun h => c3 h.1)]
        exact Ev.neg (by show ¬ ((takeN l2).2.2 : Int) = 0; omega) (hbad True)
    · rw [if_neg c2]
      exact Ev.neg (by show ¬ ((takeN (takeN l).2.1).2.2 : Int) = 0; omega) (hbad True)
  · rw [if_neg c1]
    exact Ev.neg (by show ¬ ((takeN l).2.2 : Int) = 0; omega) (hbad True)
theorem REDecode_ev (l : List UInt8) (hl : l.length ≤ 4611686018427387903) : Ev (fun k => gafferref03_Decode.f k (ba l)) (decE l) := by
  unfold gafferref03_Decode.f decE
  refine Ev.bind (RETake_ev l hl) ?_
  cases hq : takeE l with
  | none => exact Ev.neg (by rw [rE]; simp) (Ev.now _)
  | some s =>
    refine Ev.pos rfl ?_
    show Ev (fun _ => if (ba s.r).toList = ([] : List UInt8) then some ((s.i : Int), (s.t : Int), (s.q : Int), ba s.d, s.ms, (0 : Int)) else some (0, 0, 0, (⟨#[]⟩ : ByteArray), ([] : List Int), 4)) (if s.r = [] then ((s.i : Int), (s.t : Int), (s.q : Int), ba s.d, s.ms, (0 : Int)) else (0, 0, 0, ba [], [], 4))
    by_cases c : s.r = []
    · rw [if_pos c]; exact Ev.pos (by rw [ba_list]; exact c) (Ev.now _)
    · rw [if_neg c]; exact Ev.neg (by rw [ba_list]; exact c) (Ev.now _)
end Go.Proofs.Ytcdibodjkdoknaa.Wl
