/- What is taken of what was made is what it was, and what stood behind it. No condition beside the form's own. -/
import Derived.Test.YtkmkbhiipieolaaPAx6
import Derived.Test.YtkmkbhiipieolaaPackLaw
namespace Go.Proofs.Ytkmkbhiipieolaa.Pure
open Go.RowKit Go.Proofs.YtkmkbhiipieolaaW.PrintWords Go.Proofs.YtkmkbhiipieolaaW.PrintLast Go.Proofs.YtkmkbhiipieolaaW.PrintMore Go.Proofs.Ytkmkbhiipieolaa.PA Go.Proofs.Ytkmkbhiipieolaa.Ba
set_option linter.unusedVariables false

theorem takeN_long (n : Nat) (r : List UInt8) (hn : n < 18446744073709551616) (hr : r.length ≤ 140737488351232) : Ev (fun k => pack_TakeNumber.f k (ba (numL n ++ r))) (((n : Nat) : Int), ba r, 0) := by
  have h8 := nl_le n
  have := TakeNumber_ev (numL n ++ r) (by rw [List.length_append, numL_length]; omega)
  rw [takeN_numL n hn] at this; exact this
theorem takeT_any (t r : List UInt8) (ht : t.length ≤ 140737488351232) (hr : r.length ≤ 140737488351232) : Ev (fun k => pack_TakeText.f k (ba (textL t ++ r))) (if 65536 < t.length then (ba [], ba [], 2) else (ba t, ba r, 0)) := by
  have h8 := nl_le t.length
  have := TakeText_ev (textL t ++ r) (by unfold textL; rw [List.length_append, List.length_append, numL_length]; omega)
  by_cases h : 65536 < t.length
  · rw [takeT_long t r h ht] at this; rw [if_pos h]; exact this
  · rw [takeT_textL t r (by omega)] at this; rw [if_neg h]; exact this

theorem PackBack : gafferlaw01_PackBack.Pure := by
  intro n t rest wn ht hr
  obtain ⟨n, rfl, hn⟩ := nat_of_u64 wn
  obtain ⟨t, rfl, ht'⟩ := exists_ba t
  obtain ⟨r, rfl, hr'⟩ := exists_ba rest
  rw [← ht'] at ht; rw [← hr'] at hr
  have h8 := nl_le n
  have h8' := nl_le t.length
  have hnl := numL_length n
  have htl : (textL t).length = nl t.length + 1 + t.length := by unfold textL; rw [List.length_append, numL_length]
  refine Ev.rounds (r := true) ?_
  unfold gafferlaw01_PackBack.f
  refine Ev.bind (Number_ev n hn) (Ev.pos (by rw [ba_size, ba_size]; omega) ?_)
  rw [ba_append]
  refine Ev.bind (takeN_long n r hn (by omega)) (Ev.bind (Text_ev t (by omega)) (Ev.pos (by rw [ba_size, ba_size]; omega) ?_))
  rw [ba_append]
  refine Ev.bind (takeT_any t r (by omega) (by omega)) (Ev.bind (Frame_ev t (by omega)) ?_)
  by_cases hl : 65536 < t.length
  · have hF : frameR t = (ba [], 2) := by unfold frameR; rw [if_pos hl]
    rw [hF, if_pos hl]
    refine Ev.pos (by rw [ba_size, ba_size]; simp; omega) ?_
    rw [ba_append, List.nil_append]
    refine Ev.bind (TakeFrame_ev r (by omega)) (Ev.bind numbers_ev (Ev.pos rfl (Ev.bind frames_ev (Ev.pos rfl (Ev.pos rfl (Ev.pos rfl ?_))))))
    refine Ev.step (f := fun _ => some true) (fun k => ?_) (Ev.now _)
    rw [gafferlaw01_PackBack.j0, if_neg (by simp), if_pos (by rw [ba_size]; omega), if_pos rfl]; rfl
  · have hF : frameR t = (ba (frameL t), 0) := by unfold frameR; rw [if_neg hl]
    rw [hF, if_neg hl]
    refine Ev.pos (by rw [ba_size, ba_size, frameL_length]; omega) ?_
    rw [ba_append]
    refine Ev.bind (TakeFrame_ev _ (by rw [List.length_append, frameL_length]; omega)) (Ev.bind numbers_ev (Ev.pos rfl (Ev.bind frames_ev (Ev.pos rfl (Ev.pos rfl (Ev.pos rfl ?_))))))
    rw [takeF_frameL t r (by omega)]
    refine Ev.step (f := fun _ => some true) (fun k => ?_) (Ev.now _)
    rw [gafferlaw01_PackBack.j0, if_neg (by simp), if_neg (by rw [ba_size]; omega)]
    simp [tup3']
end Go.Proofs.Ytkmkbhiipieolaa.Pure
