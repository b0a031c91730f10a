/- Two messages that are not one have unlike packets. No condition beside the form's own. -/
import Derived.Test.YtcdibodjkdoknaaPMx9
import Derived.Test.YtcdibodjkdoknaaPMx6
import Derived.Test.YtcdibodjkdoknaaMgCutm
namespace Go.Proofs.Ytcdibodjkdoknaa.Pure
open Go.RowKit Go.Proofs.YtcdibodjkdoknaaW.PrintWords Go.Proofs.YtcdibodjkdoknaaW.PrintLast Go.Proofs.YtcdibodjkdoknaaW.PrintMore Go.Proofs.Ytcdibodjkdoknaa.PM Go.Proofs.Ytcdibodjkdoknaa.Ba Go.Proofs.Ytcdibodjkdoknaa.Mg Go.Proofs.Ytcdibodjkdoknaa.Op
set_option linter.unusedVariables false

theorem u64_of {n : Int} (h : okInt .u64 n) : U64 n := by
  obtain ⟨m, rfl, hm⟩ := nat_of_u64 h
  exact ⟨by omega, by omega⟩
theorem u8_of {n : Int} (h : okInt .u8 n) : 0 ≤ n ∧ n < 256 := by
  simp only [okInt, Lit.wf, IntKind.min, IntKind.max, IntKind.signed, IntKind.bits, Bool.and_eq_true] at h
  simp at h
  omega
theorem ap_encode (x : S37) (hx : ok37 x) : ∃ (b : ByteArray) (r : Int), Ev (fun k => msg_Encode.f k x.f0 x.f1 x.f2 x.f3 x.f4 x.f5 x.f6 x.f7.f0 x.f7.f1 x.f7.f2 x.f7.f3) (b, r) ∧
    (r = 0 → Right x.f0 x.f1 x.f2 x.f3 x.f4 x.f5 x.f6 x.f7.f0 x.f7.f1 x.f7.f2 x.f7.f3 ∧ b = ba (frameL (msgL x.f0 x.f1 x.f2 x.f3 x.f4 x.f5 x.f6 x.f7.f0 x.f7.f1 x.f7.f2 x.f7.f3)) ∧ (msgL x.f0 x.f1 x.f2 x.f3 x.f4 x.f5 x.f6 x.f7.f0 x.f7.f1 x.f7.f2 x.f7.f3).length ≤ 65536) := by
  obtain ⟨o0, o1, o2, o3, o4, _, hl, p0, p1, hm, _⟩ := hx
  have h1 : x.f6.length < 4611686018427387904 := by have := hl.1; omega
  have h2 : ∀ e ∈ x.f6, e.f4.length < 4611686018427387904 := fun e he => by have := (hl.2 e he).2.2.2.2.1; omega
  have h3 : x.f7.f2.length < 4611686018427387904 := by have := hm.1; omega
  have hin : ∀ e ∈ x.f6, EntIn e := fun e he => by
    obtain ⟨a, b, c, _⟩ := hl.2 e he
    exact ⟨u64_of a, u64_of b, u8_of c⟩
  obtain ⟨r, hr, h0⟩ := right_ok x.f0 x.f1 x.f2 x.f3 x.f4 x.f5 x.f6 x.f7.f0 x.f7.f1 x.f7.f2 x.f7.f3 h1 h2 h3
  by_cases c : r = 0
  · obtain ⟨q0, q6, _, hw, h8, hok, h5⟩ := h0 c
    have R : Right x.f0 x.f1 x.f2 x.f3 x.f4 x.f5 x.f6 x.f7.f0 x.f7.f1 x.f7.f2 x.f7.f3 := ⟨⟨q0, q6⟩, u64_of o1, u64_of o2, u64_of o3, u64_of o4, u64_of p0, u64_of p1, hin, hok, h8, h5, hw⟩
    obtain ⟨hB, hL⟩ := bytes_ev x.f0 x.f1 x.f2 x.f3 x.f4 x.f5 x.f6 x.f7.f0 x.f7.f1 x.f7.f2 x.f7.f3 R.kind R.ut R.ui R.ult R.uc R.usi R.ust hin hok h8 h5
    have hF := Frame_ev (msgL x.f0 x.f1 x.f2 x.f3 x.f4 x.f5 x.f6 x.f7.f0 x.f7.f1 x.f7.f2 x.f7.f3) (by omega)
    unfold frameR at hF
    rw [if_neg (by omega)] at hF
    refine ⟨_, 0, ?_, fun _ => ⟨R, rfl, hL⟩⟩
    unfold msg_Encode.f
    exact Ev.bind hr (Ev.pos c (Ev.bind hB (Ev.bind hF (Ev.now _))))
  · refine ⟨⟨#[]⟩, r, ?_, fun h => absurd h c⟩
    unfold msg_Encode.f
    exact Ev.bind hr (Ev.neg c (Ev.now _))
theorem MsgApart : gafferlaw13_MsgApart.Pure := by
  intro x y hx hy
  refine Ev.rounds (g := fun k => gafferlaw13_MsgApart.f k x.f0 x.f1 x.f2 x.f3 x.f4 x.f5 x.f6 x.f7.f0 x.f7.f1 x.f7.f2 x.f7.f3 y.f0 y.f1 y.f2 y.f3 y.f4 y.f5 y.f6 y.f7.f0 y.f7.f1 y.f7.f2 y.f7.f3) ?_
  obtain ⟨b1, r1, e1, k1⟩ := ap_encode x hx
  obtain ⟨b2, r2, e2, k2⟩ := ap_encode y hy
  obtain ⟨_, _, _, _, _, _, hl, _, _, hm, _⟩ := hx
  obtain ⟨s, hs, hsi⟩ := msg_same x.f0 x.f1 x.f2 x.f3 x.f4 x.f5 x.f6 x.f7.f0 x.f7.f1 x.f7.f2 x.f7.f3 y.f0 y.f1 y.f2 y.f3 y.f4 y.f5 y.f6 y.f7.f0 y.f7.f1 y.f7.f2 y.f7.f3 (by have := hl.1; omega) (fun e he => by have := (hl.2 e he).2.2.2.2.1; omega) (by have := hm.1; omega)
  unfold gafferlaw13_MsgApart.f
  refine Ev.bind lives_ev (Ev.pos rfl (Ev.bind e1 (Ev.bind e2 ?_)))
  by_cases c1 : r1 = 0
  · by_cases c2 : r2 = 0
    · refine Ev.pos c1 (Ev.pos c2 (Ev.bind hs ?_))
      obtain ⟨R1, rfl, l1⟩ := k1 c1
      obtain ⟨R2, rfl, l2⟩ := k2 c2
      have key : ((ba (frameL (msgL x.f0 x.f1 x.f2 x.f3 x.f4 x.f5 x.f6 x.f7.f0 x.f7.f1 x.f7.f2 x.f7.f3))).toList == (ba (frameL (msgL y.f0 y.f1 y.f2 y.f3 y.f4 y.f5 y.f6 y.f7.f0 y.f7.f1 y.f7.f2 y.f7.f3))).toList) = s := by
        rw [ba_list, ba_list]
        cases s
        · refine beq_eq_false_iff_ne.2 (fun h => ?_)
          exact absurd (hsi.2 (msg_cut R1 R2 (frame_cut' l1 l2 h))) (by decide)
        · obtain ⟨q1, q2, q3, q4, q5, q6, q7, q8, q9, q10, q11⟩ := hsi.1 rfl
          rw [q1, q2, q3, q4, q5, q6, q7, q8, q9, q10, q11]
          exact beq_self_eq_true _
      rw [key, beq_self_eq_true]
      exact Ev.now _
    · exact Ev.pos c1 (Ev.neg c2 (Ev.now _))
  · exact Ev.neg c1 (Ev.now _)
end Go.Proofs.Ytcdibodjkdoknaa.Pure
