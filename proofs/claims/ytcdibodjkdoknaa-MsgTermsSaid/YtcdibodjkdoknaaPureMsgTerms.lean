/- A right message of another term above 0 is right. No condition beside the form's own. -/
import Derived.Test.YtcdibodjkdoknaaPMx9
import Derived.Test.YtcdibodjkdoknaaMgCheckm
namespace Go.Proofs.Ytcdibodjkdoknaa.Pure
open Go.RowKit Go.Proofs.YtcdibodjkdoknaaW.PrintWords Go.Proofs.YtcdibodjkdoknaaW.PrintLast Go.Proofs.YtcdibodjkdoknaaW.PrintMore Go.Proofs.Ytcdibodjkdoknaa.PM Go.Proofs.Ytcdibodjkdoknaa.Ba Go.Proofs.Ytcdibodjkdoknaa.Mg Go.Proofs.Ytcdibodjkdoknaa.Op
set_option linter.unusedVariables false

theorem MsgTerms : gafferlaw13_MsgTerms.Pure := by
  intro x t hx ht
  obtain ⟨_, _, _, _, _, _, hl, _, _, hm, _⟩ := hx
  have h1 : x.f6.length < 4611686018427387904 := by have := hl.1; omega
  have h2 : ∀ e ∈ x.f6, e.f4.length < 4611686018427387904 := fun e he => by have := (hl.2 e he).2.2.2.2.1; omega
  have h3 : x.f7.f2.length < 4611686018427387904 := by have := hm.1; omega
  refine Ev.rounds (g := fun k => gafferlaw13_MsgTerms.f k x.f0 x.f1 x.f2 x.f3 x.f4 x.f5 x.f6 x.f7.f0 x.f7.f1 x.f7.f2 x.f7.f3 t) ?_
  obtain ⟨r, hr⟩ := check_ex x.f0 x.f2 x.f3 x.f4 x.f5 x.f6 x.f7.f0 x.f7.f1 x.f7.f2 x.f7.f3 h1 h2 h3
  unfold gafferlaw13_MsgTerms.f
  refine Ev.bind lives_ev (Ev.pos rfl (Ev.bind (hr x.f1) ?_))
  by_cases c : (if x.f1 > 0 then r else 4) = (0 : Int)
  · refine Ev.pos c (Ev.bind (hr t) ?_)
    have hr0 : r = 0 := by
      split at c
      · exact c
      · cases c
    subst hr0
    by_cases c2 : t > 0
    · rw [if_pos c2, decide_eq_true c2]
      exact Ev.now _
    · rw [if_neg c2, decide_eq_false c2]
      exact Ev.now _
  · exact Ev.neg c (Ev.now _)
end Go.Proofs.Ytcdibodjkdoknaa.Pure
