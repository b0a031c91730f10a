/- What is written is read as what it was, and no byte more or less is; what is read is written as the bytes that it was. No condition beside the form's own. -/
import Derived.Test.YtcdibodjkdoknaaPMx12
import Derived.Test.YtcdibodjkdoknaaMgBackm
import Derived.Test.YtcdibodjkdoknaaMgSamem
import Derived.Test.YtcdibodjkdoknaaPackTurnm
namespace Go.Proofs.Ytcdibodjkdoknaa.Pure
open Go.RowKit Go.Proofs.YtcdibodjkdoknaaW.PrintWords Go.Proofs.YtcdibodjkdoknaaW.PrintLast Go.Proofs.YtcdibodjkdoknaaW.PrintMore Go.Proofs.Ytcdibodjkdoknaa.PM Go.Proofs.Ytcdibodjkdoknaa.Ba Go.Proofs.Ytcdibodjkdoknaa.Mg Go.Proofs.Ytcdibodjkdoknaa.Op
set_option linter.unusedVariables false
set_option linter.unusedSimpArgs false

theorem same_refl (q t i lt c : Int) (ok : Bool) (l : List S67) (si st : Int) (ms : List Int) (d : ByteArray) (sm : Small l ms) : Ev (fun k => gafferref13_Same.f k q t i lt c ok l si st ms d q t i lt c ok l si st ms d) true := by
  obtain ⟨s, hs, hsi⟩ := msg_same q t i lt c ok l si st ms d q t i lt c ok l si st ms d sm.a sm.b sm.c
  rw [← hsi.2 ⟨rfl, rfl, rfl, rfl, rfl, rfl, rfl, rfl, rfl, rfl, rfl⟩]
  exact hs
theorem back_j0 (s : ByteArray) (hs : s.size ≤ 140737488351232) : Ev (fun k => gafferlaw13_MsgBack.j0 k s) true := by
  obtain ⟨l, rfl, hl⟩ := exists_ba s
  refine Ev.step (fun k => rfl) ?_
  simp only [gafferlaw13_MsgBack.j0]
  rcases Decode_any l (by omega) with h | ⟨m, h, hc, hE⟩
  · exact Ev.bind h (Ev.neg (by decide) (Ev.pos rfl (Ev.bind (same_refl 0 0 0 0 0 false [] 0 0 [] ⟨#[]⟩ ⟨by simp, fun e he => (by cases he), by simp⟩) (Ev.now _))))
  · exact Ev.bind h (Ev.pos rfl (Ev.bind hE (Ev.pos rfl (Ev.pos rfl (Ev.bind hc (Ev.now _))))))
theorem MsgBack : gafferlaw13_MsgBack.Pure := by
  intro x s hx hs
  refine Ev.rounds (g := fun k => gafferlaw13_MsgBack.f k x.f0 x.f1 x.f2 x.f3 x.f4 x.f5 x.f6 x.f7.f0 x.f7.f1 x.f7.f2 x.f7.f3 s) ?_
  have hJ := back_j0 s hs
  obtain ⟨o0, o1, o2, o3, o4, _, hl, p0, p1, hm, _⟩ := hx
  have sm : Small x.f6 x.f7.f2 := ⟨by have := hl.1; omega, fun e he => by have := (hl.2 e he).2.2.2.2.1; omega, by have := hm.1; omega⟩
  have hin : ∀ e ∈ x.f6, EntIn e := fun e he => by
    obtain ⟨a, b, c, _⟩ := hl.2 e he
    exact ⟨u64_of a, u64_of b, u8_of c⟩
  obtain ⟨c, hc, _⟩ := right_ok x.f0 x.f1 x.f2 x.f3 x.f4 x.f5 x.f6 x.f7.f0 x.f7.f1 x.f7.f2 x.f7.f3 sm.a sm.b sm.c
  unfold gafferlaw13_MsgBack.f
  refine Ev.bind lives_ev (Ev.pos rfl ?_)
  by_cases c0 : c = 0
  · subst c0
    obtain ⟨R, hL, hE⟩ := enc_ok (u64_of o1) (u64_of o2) (u64_of o3) (u64_of o4) (u64_of p0) (u64_of p1) hin sm hc
    have hD := Decode_to R hL hc
    generalize msgL x.f0 x.f1 x.f2 x.f3 x.f4 x.f5 x.f6 x.f7.f0 x.f7.f1 x.f7.f2 x.f7.f3 = p at hL hE hD
    have hlen := frameL_length p
    have hM := Decode_more p [0] hL (by simp) (by simp)
    rw [← ba_append] at hM
    have hN : Ev (fun k => msg_Decode.f k ((ba (frameL p)).extract 0 ((wrap64 (((ba (frameL p)).size : Int) - 1)) : Int).toNat)) noDec := by
      rw [ba_size, wrap64_id (by omega) (by omega), ba_take]
      exact Decode_less p hL _ (by omega)
    refine Ev.bind hE (Ev.pos rfl (Ev.bind hD (Ev.pos (by show (ba (frameL p)).size + 1 ≤ _; rw [ba_size]; omega) (Ev.bind hM (Ev.pos ?_ (Ev.pos ?_ (Ev.bind hN (Ev.pos rfl (Ev.bind (same_refl _ _ _ _ _ _ _ _ _ _ _ sm) (Ev.pos rfl (Ev.pos rfl (Ev.pos rfl hJ))))))))))))
    · show 0 ≤ wrap64 (((ba (frameL p)).size : Int) - 1)
      rw [ba_size, wrap64_id (by omega) (by omega)]; omega
    · show wrap64 (((ba (frameL p)).size : Int) - 1) ≤ ((ba (frameL p)).size : Int)
      rw [ba_size, wrap64_id (by omega) (by omega)]; omega
  · have hE : Ev (fun k => msg_Encode.f k x.f0 x.f1 x.f2 x.f3 x.f4 x.f5 x.f6 x.f7.f0 x.f7.f1 x.f7.f2 x.f7.f3) (⟨#[]⟩, c) := by
      unfold msg_Encode.f
      exact Ev.bind hc (Ev.neg c0 (Ev.now _))
    exact Ev.bind hE (Ev.neg c0 hJ)
end Go.Proofs.Ytcdibodjkdoknaa.Pure
