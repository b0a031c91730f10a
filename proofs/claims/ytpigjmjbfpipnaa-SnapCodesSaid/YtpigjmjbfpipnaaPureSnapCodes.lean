/- The program's snapshot bytes are the document's, both ways. No condition beside the form's own. -/
import Derived.Test.YtpigjmjbfpipnaaPCx13
import Derived.Test.YtpigjmjbfpipnaaSnCodec
import Derived.Test.YtpigjmjbfpipnaaSnLivesc
namespace Go.Proofs.Ytpigjmjbfpipnaa.Pure
open Go.RowKit Go.Proofs.YtpigjmjbfpipnaaW.PrintWords Go.Proofs.YtpigjmjbfpipnaaW.PrintLast Go.Proofs.YtpigjmjbfpipnaaW.PrintMore Go.Proofs.Ytpigjmjbfpipnaa.PC Go.Proofs.Ytpigjmjbfpipnaa.Ba Go.Proofs.Ytpigjmjbfpipnaa.Sn Go.Proofs.Ytpigjmjbfpipnaa.Op
set_option linter.unusedVariables false

theorem SnapCodes : gafferlaw05_SnapCodes.Pure := by
  intro x s hx hs
  obtain ⟨hi0, ht0, hm, hd⟩ := hx
  obtain ⟨i, ei, hi⟩ := nat_of_u64 hi0
  obtain ⟨t, et, ht⟩ := nat_of_u64 ht0
  obtain ⟨d, ed, hdl⟩ := exists_ba x.f3
  obtain ⟨l, rfl, hl⟩ := exists_ba s
  have hml : x.f2.length < 4611686018427387904 := by have := hm.1; omega
  have hll : l.length ≤ 4611686018427387903 := by unfold okStr at hs; omega
  rw [ei, et, ed]
  refine Ev.rounds (g := fun k => gafferlaw05_SnapCodes.f k (i : Int) (t : Int) x.f2 (ba d) (ba l)) ?_
  unfold gafferlaw05_SnapCodes.f
  refine Ev.bind (Encode_ev i t x.f2 d hi ht hml) (Ev.bind (REncode_ev i t x.f2 d hi ht hml) (Ev.bind (Decode_ev l hll) (Ev.bind (RDecode_ev l hll) (Ev.bind lives_ev (Ev.pos rfl (Ev.pos rfl (Ev.pos rfl (Ev.bind (Same_ev _ _ _ _ (by have := decR_len l; omega)) (Ev.pos rfl (Ev.pos rfl (Ev.bind (Check_ev (i : Int) (t : Int) x.f2 d hml) (Ev.bind (RCheck_ev (i : Int) (t : Int) x.f2 d hml) ?_))))))))))))
  rw [beq_self_eq_true]
  exact Ev.now _
end Go.Proofs.Ytpigjmjbfpipnaa.Pure
