/- What was written is read back, and nothing that is longer or shorter. No condition beside the form's own. -/
import Derived.Test.YtpigjmjbfpipnaaPCx13
import Derived.Test.YtpigjmjbfpipnaaSnCodec
import Derived.Test.YtpigjmjbfpipnaaSnLivesc
namespace Go.Proofs.Ytpigjmjbfpipnaa.Pure
open Go.RowKit Go.Proofs.YtpigjmjbfpipnaaW.PrintWords Go.Proofs.YtpigjmjbfpipnaaW.PrintLast Go.Proofs.YtpigjmjbfpipnaaW.PrintMore Go.Proofs.Ytpigjmjbfpipnaa.PC Go.Proofs.Ytpigjmjbfpipnaa.Ba Go.Proofs.Ytpigjmjbfpipnaa.Sn Go.Proofs.Ytpigjmjbfpipnaa.Op
set_option linter.unusedVariables false
attribute [local instance 10] Classical.propDecidable

theorem encR_ok {i t : Nat} {ms : List Int} {d : List UInt8} (h : snapOk i t ms d) : encR i t ms d = (ba (snapL i t ms d), 0) := by unfold encR; exact if_pos h
theorem encR_no {i t : Nat} {ms : List Int} {d : List UInt8} (h : ¬ snapOk i t ms d) : encR i t ms d = (ba [], 4) := by unfold encR; exact if_neg h
theorem back_j0 (l : List UInt8) (hl : l.length ≤ 4611686018427387903) : Ev (fun k => gafferlaw05_SnapBack.j0 k (ba l)) true := by
  refine Ev.step (fun k => rfl) ?_
  simp only [gafferlaw05_SnapBack.j0]
  refine Ev.bind (Decode_ev l hl) ?_
  have none_ : Ev (fun k => if (4 : Int) = 0 then (snap_Encode.f k (0 : Int) (0 : Int) ([] : List Int) (ba [])).bind fun q => (if q.2 = 0 then some (q.1.toList == (ba l).toList) else some false) else if (4 : Int) = 4 then ((gafferref05_Same.f k (0 : Int) (0 : Int) ([] : List Int) (ba []) 0 0 ([] : List Int) (ba [])).bind fun q => some q) else some false) true :=
    Ev.neg (by decide) (Ev.pos rfl (Ev.bind (Same_ev 0 0 [] (ba []) (by simp)) (Ev.now _)))
  cases hq : takeS l with
  | none =>
    have e : decR l = (0, 0, [], ba [], 4) := by unfold decR; rw [hq]
    rw [e]
    exact none_
  | some s =>
    obtain ⟨h1, h2, h3, h4⟩ := takeS_inv hq
    by_cases hr : s.r = []
    · rw [hr, List.append_nil] at h1
      have e : decR l = ((s.i : Int), (s.t : Int), s.ms, ba s.d, 0) := by rw [h1]; exact decR_snapL h3 h4 h2
      rw [e]
      refine Ev.pos rfl (Ev.bind (Encode_ev s.i s.t s.ms s.d h3 h4 (by have := (ok_mem h2).2.1; omega)) ?_)
      rw [encR_ok h2, ← h1]
      refine Ev.pos rfl ?_
      rw [beq_self_eq_true]
      exact Ev.now _
    · have e : decR l = (0, 0, [], ba [], 4) := by rw [h1]; exact decR_more h3 h4 h2 hr
      rw [e]
      exact none_
theorem SnapBack : gafferlaw05_SnapBack.Pure := by
  intro x s hx hs
  obtain ⟨hi0, ht0, hm, hd⟩ := hx
  obtain ⟨i, ei, hi⟩ := nat_of_u64 hi0
  obtain ⟨t, et, ht⟩ := nat_of_u64 ht0
  obtain ⟨d, ed, hdl⟩ := exists_ba x.f3
  obtain ⟨l, rfl, hl⟩ := exists_ba s
  have hml : x.f2.length < 4611686018427387904 := by have := hm.1; omega
  have hll : l.length ≤ 4611686018427387903 := by unfold okStr at hs; omega
  rw [ei, et, ed]
  refine Ev.rounds (g := fun k => gafferlaw05_SnapBack.f k (i : Int) (t : Int) x.f2 (ba d) (ba l)) ?_
  unfold gafferlaw05_SnapBack.f
  refine Ev.bind lives_ev (Ev.pos rfl (Ev.bind (Encode_ev i t x.f2 d hi ht hml) ?_))
  by_cases h : snapOk i t x.f2 d
  · rw [encR_ok h]
    obtain ⟨g1, g2, g3⟩ := ok_mem h
    have hL := snapL_len i t x.f2 d g2
    have hL1 : 0 < (snapL i t x.f2 d).length := by unfold snapL; rw [List.length_append, numL_length]; omega
    have hle := takeS_less hi ht h
    have e2 : ba (snapL i t x.f2 d) ++ (⟨#[0]⟩ : ByteArray) = ba (snapL i t x.f2 d ++ [0]) := ba_append _ [0]
    have ew : wrap64 (((snapL i t x.f2 d).length : Int) - 1) = (((snapL i t x.f2 d).length - 1 : Nat) : Int) := by rw [wrap64_id (by omega) (by omega)]; omega
    have h4 : decR ((snapL i t x.f2 d).take ((snapL i t x.f2 d).length - 1)) = (0, 0, [], ba [], 4) := by unfold decR; rw [hle]
    refine Ev.pos rfl ?_
    show Ev (fun k => (snap_Decode.f k (ba (snapL i t x.f2 d))).bind _) true
    refine Ev.bind (Decode_ev (snapL i t x.f2 d) (by omega)) ?_
    rw [decR_snapL hi ht h, ba_size, e2, ew, Int.toNat_natCast, ba_take]
    refine Ev.pos (by omega) (Ev.bind (Decode_ev (snapL i t x.f2 d ++ [0]) (by rw [List.length_append, List.length_singleton]; omega)) ?_)
    rw [decR_more hi ht h (by simp)]
    refine Ev.pos (by omega) (Ev.pos (by omega) (Ev.bind (Decode_ev _ (by rw [List.length_take]; omega)) ?_))
    rw [h4]
    exact Ev.pos rfl (Ev.bind (Same_ev _ _ _ _ (by omega)) (Ev.pos rfl (Ev.pos rfl (Ev.pos rfl (back_j0 l hll)))))
  · rw [encR_no h]
    exact Ev.neg (by decide) (back_j0 l hll)
end Go.Proofs.Ytpigjmjbfpipnaa.Pure
