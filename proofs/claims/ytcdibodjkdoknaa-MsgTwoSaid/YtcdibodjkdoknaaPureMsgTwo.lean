/- Two packets one behind the other are none; neither is one without its last byte. No condition beside the form's own. -/
import Derived.Test.YtcdibodjkdoknaaPMx12
import Derived.Test.YtcdibodjkdoknaaMgEncm
import Derived.Test.YtcdibodjkdoknaaMgDecm
import Derived.Test.YtcdibodjkdoknaaMgCheckm
namespace Go.Proofs.Ytcdibodjkdoknaa.Pure
open Go.RowKit Go.Proofs.YtcdibodjkdoknaaW.PrintWords Go.Proofs.YtcdibodjkdoknaaW.PrintLast Go.Proofs.YtcdibodjkdoknaaW.PrintMore Go.Proofs.Ytcdibodjkdoknaa.PM Go.Proofs.Ytcdibodjkdoknaa.Ba Go.Proofs.Ytcdibodjkdoknaa.Mg Go.Proofs.Ytcdibodjkdoknaa.Op
set_option linter.unusedVariables false
set_option linter.unusedSimpArgs false

theorem two_j0 (p q : List UInt8) (hp : p.length ≤ 65536) (hq : q.length ≤ 65536) : Ev (fun k => gafferlaw13_MsgTwo.j0 k (ba (frameL p)) (ba (frameL q)) false) true := by
  refine Ev.step (fun k => rfl) ?_
  simp only [gafferlaw13_MsgTwo.j0]
  have lp := frameL_length p
  have lq := frameL_length q
  rw [ba_size, ba_size, wrap64_id (by omega) (by omega), ba_append]
  have hn : (((frameL p).length : Int) - 1).toNat = (frameL p).length - 1 := by omega
  rw [hn, ba_take]
  have hne : frameL q ≠ [] := fun e => by rw [e] at lq; simp at lq
  exact Ev.neg (by decide) (Ev.pos (by omega) (Ev.bind (Decode_more p _ hp hne (by omega)) (Ev.pos (by omega) (Ev.pos (by omega) (Ev.bind (Decode_less p hp _ (by omega)) (Ev.pos rfl (Ev.now _)))))))
theorem two_bad (a b : ByteArray) : Ev (fun k => gafferlaw13_MsgTwo.j0 k a b true) true := by
  refine Ev.step (fun k => rfl) ?_
  simp only [gafferlaw13_MsgTwo.j0]
  exact Ev.pos trivial (Ev.now _)
theorem MsgTwo : gafferlaw13_MsgTwo.Pure := by
  intro x y hx hy
  refine Ev.rounds (g := fun k => gafferlaw13_MsgTwo.f k x.f0 x.f1 x.f2 x.f3 x.f4 x.f5 x.f6 x.f7.f0 x.f7.f1 x.f7.f2 x.f7.f3 y.f0 y.f1 y.f2 y.f3 y.f4 y.f5 y.f6 y.f7.f0 y.f7.f1 y.f7.f2 y.f7.f3) ?_
  obtain ⟨b1, r1, e1, k1⟩ := ap_encode x hx
  obtain ⟨b2, r2, e2, k2⟩ := ap_encode y hy
  unfold gafferlaw13_MsgTwo.f
  refine Ev.bind lives_ev (Ev.pos rfl (Ev.bind e1 (Ev.bind e2 ?_)))
  by_cases c1 : r1 = 0
  · refine Ev.pos c1 ?_
    by_cases c2 : r2 = 0
    · obtain ⟨_, rfl, l1⟩ := k1 c1
      obtain ⟨_, rfl, l2⟩ := k2 c2
      subst c2
      exact two_j0 _ _ l1 l2
    · show Ev (fun k => gafferlaw13_MsgTwo.j0 k b1 b2 (r2 != 0)) true
      rw [bne_iff_ne.mpr c2]
      exact two_bad _ _
  · exact Ev.neg c1 (two_bad _ _)
end Go.Proofs.Ytcdibodjkdoknaa.Pure
