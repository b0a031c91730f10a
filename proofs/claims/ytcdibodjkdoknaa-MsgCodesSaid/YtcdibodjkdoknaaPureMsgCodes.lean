import Derived.Test.YtcdibodjkdoknaaPMx20
import Derived.Test.YtcdibodjkdoknaaMgBackm
import Derived.Test.YtcdibodjkdoknaaMgSamem
import Derived.Test.YtcdibodjkdoknaaRefDecm
import Derived.Test.YtcdibodjkdoknaaRefEncm
namespace Go.Proofs.Ytcdibodjkdoknaa.Pure
open Go.RowKit YtcdibodjkdoknaaW.PrintWords YtcdibodjkdoknaaW.PrintLast YtcdibodjkdoknaaW.PrintMore Ytcdibodjkdoknaa.PM Ba Mg Ytcdibodjkdoknaa.Op
set_option linter.unusedVariables false
set_option linter.unusedSimpArgs false

theorem same_refl (q t i lt c : Int) (ok : Bool) (l : List S67) (si st : Int) (ms : List Int) (d : ByteArray) (sm : Small l ms) : Ev (fun k => gafferref13_Same.f k q t i lt c ok l si st ms d q t i lt c ok l si st ms d) true := by
  obtain ⟨s, hs, hsi⟩ := msg_same q t i lt c ok l si st ms d q t i lt c ok l si st ms d sm.a sm.b sm.c
  rw [← hsi.2 ⟨rfl, rfl, rfl, rfl, rfl, rfl, rfl, rfl, rfl, rfl, rfl⟩]
  exact hs
theorem dec_small (l : List UInt8) : Small (decM l).2.2.2.2.2.2.1 (decM l).2.2.2.2.2.2.2.2.2.1 := by
  unfold decM
  split
  · exact msgR_small _
  · exact ⟨by decide, fun e he => (by cases he), by decide⟩
theorem codes_rest (x : S37) (l : List UInt8) (hl : l.length ≤ 4611686018427387903) (hx : ok37 x) (e : ByteArray × Int)
    (h1 : Ev (fun k => msg_Encode.f k x.f0 x.f1 x.f2 x.f3 x.f4 x.f5 x.f6 x.f7.f0 x.f7.f1 x.f7.f2 x.f7.f3) e) (h2 : Ev (fun k => gafferref13_Encode.f k x.f0 x.f1 x.f2 x.f3 x.f4 x.f5 x.f6 x.f7.f0 x.f7.f1 x.f7.f2 x.f7.f3) e)
    (c : Int) (h3 : Ev (fun k => msg_Check.f k x.f0 x.f1 x.f2 x.f3 x.f4 x.f5 x.f6 x.f7.f0 x.f7.f1 x.f7.f2 x.f7.f3) c) (h4 : Ev (fun k => gafferref13_Check.f k x.f0 x.f1 x.f2 x.f3 x.f4 x.f5 x.f6 x.f7.f0 x.f7.f1 x.f7.f2 x.f7.f3) c) :
    Ev (fun k => gafferlaw13_MsgCodes.f k x.f0 x.f1 x.f2 x.f3 x.f4 x.f5 x.f6 x.f7.f0 x.f7.f1 x.f7.f2 x.f7.f3 (ba l)) true := by
  unfold gafferlaw13_MsgCodes.f
  refine Ev.bind h1 (Ev.bind h2 (Ev.bind (MDecode_ev l hl) (Ev.bind (RMDecode_ev l hl) (Ev.bind lives_ev (Ev.pos rfl (Ev.pos rfl (Ev.pos rfl (Ev.bind (same_refl _ _ _ _ _ _ _ _ _ _ _ (dec_small l)) (Ev.pos rfl (Ev.pos rfl (Ev.bind h3 (Ev.bind h4 (ev_castB (Ev.now _) (beq_self_eq_true c))))))))))))))
theorem MsgCodes : gafferlaw13_MsgCodes.Pure := by
  intro x s hx hs
  obtain ⟨l, rfl, hl⟩ := exists_ba s
  have hsz : (ba l).size ≤ 140737488351232 := hs
  rw [ba_size] at hsz
  refine Ev.rounds (g := fun k => gafferlaw13_MsgCodes.f k x.f0 x.f1 x.f2 x.f3 x.f4 x.f5 x.f6 x.f7.f0 x.f7.f1 x.f7.f2 x.f7.f3 (ba l)) ?_
  have hx' := hx
  obtain ⟨o0, o1, o2, o3, o4, _, hl6, p0, p1, hm, _⟩ := hx
  have sm : Small x.f6 x.f7.f2 := ⟨by have := hl6.1; omega, fun e he => by have := (hl6.2 e he).2.2.2.2.1; omega, by have := hm.1; omega⟩
  have hin : ∀ e ∈ x.f6, EntIn e := fun e he => by
    obtain ⟨a, b, c, _⟩ := hl6.2 e he
    exact ⟨u64_of a, u64_of b, u8_of c⟩
  have hC := MCheck_ev x.f0 x.f1 x.f2 x.f3 x.f4 x.f5 x.f6 x.f7.f0 x.f7.f1 x.f7.f2 x.f7.f3 sm.a sm.b sm.c
  have hR := RMCheck_ev x.f0 x.f1 x.f2 x.f3 x.f4 x.f5 x.f6 x.f7.f0 x.f7.f1 x.f7.f2 x.f7.f3 sm.a sm.b sm.c (u64_of o2) (fun e he => (hin e he).1)
  cases hb : chkB x.f0 x.f1 x.f2 x.f3 x.f4 x.f5 x.f6 x.f7.f0 x.f7.f1 x.f7.f2 x.f7.f3
  · rw [hb] at hC hR
    refine codes_rest x l (by omega) hx' (⟨#[]⟩, 4) ?_ ?_ _ hC hR
    · unfold msg_Encode.f
      exact Ev.bind hC (Ev.neg (by decide) (Ev.now _))
    · unfold gafferref13_Encode.f
      exact Ev.bind hR (Ev.neg (by decide) (Ev.now _))
  · rw [hb] at hC hR
    obtain ⟨R, hL, hE⟩ := enc_ok (u64_of o1) (u64_of o2) (u64_of o3) (u64_of o4) (u64_of p0) (u64_of p1) hin sm hC
    refine codes_rest x l (by omega) hx' _ hE ?_ _ hC hR
    have hF := RFrame_ev (msgL x.f0 x.f1 x.f2 x.f3 x.f4 x.f5 x.f6 x.f7.f0 x.f7.f1 x.f7.f2 x.f7.f3) (by omega)
    unfold frameR at hF
    rw [if_neg (by omega)] at hF
    unfold gafferref13_Encode.f
    exact Ev.bind hR (Ev.pos rfl (Ev.bind (rbytes_ev R) (Ev.bind hF (Ev.now _))))
end Go.Proofs.Ytcdibodjkdoknaa.Pure
