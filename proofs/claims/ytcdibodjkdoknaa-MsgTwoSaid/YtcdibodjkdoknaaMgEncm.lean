/- A message's packet, written: none, or a right message's bytes in a frame. No condition but the form's own. -/
import Derived.Test.YtcdibodjkdoknaaPMx6
import Derived.Test.YtcdibodjkdoknaaMgCutm
namespace Go.Proofs.Ytcdibodjkdoknaa.Mg
open Go.RowKit Go.Proofs.YtcdibodjkdoknaaW.PrintWords Go.Proofs.YtcdibodjkdoknaaW.PrintLast Go.Proofs.YtcdibodjkdoknaaW.PrintMore Go.Proofs.Ytcdibodjkdoknaa.PM Go.Proofs.Ytcdibodjkdoknaa.Ba Go.Proofs.Ytcdibodjkdoknaa.Op
set_option linter.unusedVariables false
set_option linter.unusedSimpArgs false

theorem u64_of {n : Int} (h : okInt .u64 n) : U64 n := by
  obtain ⟨m, rfl, hm⟩ := nat_of_u64 h
  exact ⟨by omega, by omega⟩
theorem u8_of {n : Int} (h : okInt .u8 n) : 0 ≤ n ∧ n < 256 := by
  simp only [okInt, Lit.wf, IntKind.min, IntKind.max, IntKind.signed, IntKind.bits, Bool.and_eq_true] at h
  simp at h
  omega
theorem ap_encode (x : S37) (hx : ok37 x) : ∃ (b : ByteArray) (r : Int), Ev (fun k => msg_Encode.f k x.f0 x.f1 x.f2 x.f3 x.f4 x.f5 x.f6 x.f7.f0 x.f7.f1 x.f7.f2 x.f7.f3) (b, r) ∧
    (r = 0 → Right x.f0 x.f1 x.f2 x.f3 x.f4 x.f5 x.f6 x.f7.f0 x.f7.f1 x.f7.f2 x.f7.f3 ∧ b = ba (frameL (msgL x.f0 x.f1 x.f2 x.f3 x.f4 x.f5 x.f6 x.f7.f0 x.f7.f1 x.f7.f2 x.f7.f3)) ∧ (msgL x.f0 x.f1 x.f2 x.f3 x.f4 x.f5 x.f6 x.f7.f0 x.f7.f1 x.f7.f2 x.f7.f3).length ≤ 65536) := by
  obtain ⟨o0, o1, o2, o3, o4, _, hl, p0, p1, hm, _⟩ := hx
  have h1 : x.f6.length < 4611686018427387904 := by have := hl.1; omega
  have h2 : ∀ e ∈ x.f6, e.f4.length < 4611686018427387904 := fun e he => by have := (hl.2 e he).2.2.2.2.1; omega
  have h3 : x.f7.f2.length < 4611686018427387904 := by have := hm.1; omega
  have hin : ∀ e ∈ x.f6, EntIn e := fun e he => by
    obtain ⟨a, b, c, _⟩ := hl.2 e he
    exact ⟨u64_of a, u64_of b, u8_of c⟩
  obtain ⟨r, hr, h0⟩ := right_ok x.f0 x.f1 x.f2 x.f3 x.f4 x.f5 x.f6 x.f7.f0 x.f7.f1 x.f7.f2 x.f7.f3 h1 h2 h3
  by_cases c : r = 0
  · obtain ⟨q0, q6, _, hw, h8, hok, h5⟩ := h0 c
    have R : Right x.f0 x.f1 x.f2 x.f3 x.f4 x.f5 x.f6 x.f7.f0 x.f7.f1 x.f7.f2 x.f7.f3 := ⟨⟨q0, q6⟩, u64_of o1, u64_of o2, u64_of o3, u64_of o4, u64_of p0, u64_of p1, hin, hok, h8, h5, hw⟩
    obtain ⟨hB, hL⟩ := bytes_ev x.f0 x.f1 x.f2 x.f3 x.f4 x.f5 x.f6 x.f7.f0 x.f7.f1 x.f7.f2 x.f7.f3 R.kind R.ut R.ui R.ult R.uc R.usi R.ust hin hok h8 h5
    have hF := Frame_ev (msgL x.f0 x.f1 x.f2 x.f3 x.f4 x.f5 x.f6 x.f7.f0 x.f7.f1 x.f7.f2 x.f7.f3) (by omega)
    unfold frameR at hF
    rw [if_neg (by omega)] at hF
    refine ⟨_, 0, ?_, fun _ => ⟨R, rfl, hL⟩⟩
    unfold msg_Encode.f
    exact Ev.bind hr (Ev.pos c (Ev.bind hB (Ev.bind hF (Ev.now _))))
  · refine ⟨⟨#[]⟩, r, ?_, fun h => absurd h c⟩
    unfold msg_Encode.f
    exact Ev.bind hr (Ev.neg c (Ev.now _))
end Go.Proofs.Ytcdibodjkdoknaa.Mg
