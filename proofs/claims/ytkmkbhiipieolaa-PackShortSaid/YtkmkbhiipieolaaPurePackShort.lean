/- What was made, cut short, ends too soon, wherever it is cut. No condition beside the form's own. -/
import Derived.Test.YtkmkbhiipieolaaPAx7
import Derived.Test.YtkmkbhiipieolaaPackLaw
namespace Go.Proofs.Ytkmkbhiipieolaa.Pure
open Go.RowKit Go.Proofs.YtkmkbhiipieolaaW.PrintWords Go.Proofs.YtkmkbhiipieolaaW.PrintLast Go.Proofs.YtkmkbhiipieolaaW.PrintMore Go.Proofs.Ytkmkbhiipieolaa.PA Go.Proofs.Ytkmkbhiipieolaa.Ba
set_option linter.unusedVariables false

theorem round (n : Nat) (t : List UInt8) (a : Nat) (hn : n < 18446744073709551616) (ht : t.length ≤ 65536) (j : Nat) (hj : j < 3) (s : List UInt8)
    (hs : [ba (numL n), ba (textL t), ba (frameL t)].getD j ByteArray.empty = ba s) (hlen : s.length ≤ 140737488351232) (hm : s = numL n ∨ s = textL t ∨ s = frameL t)
    (next : Ev (fun k => gafferlaw01_PackShort.l0 k n (ba t) a (ba (frameL t)) [ba (numL n), ba (textL t), ba (frameL t)] 3 ((j + 1 : Nat) : Int)) true) :
    Ev (fun k => gafferlaw01_PackShort.l0 k n (ba t) a (ba (frameL t)) [ba (numL n), ba (textL t), ba (frameL t)] 3 (j : Int)) true := by
  have hr : rdOf ByteArray.empty [ba (numL n), ba (textL t), ba (frameL t)] (j : Int) = ba s := by unfold rdOf; rw [Int.toNat_natCast]; exact hs
  refine Ev.step (f := fun k => _) (fun k => by rw [gafferlaw01_PackShort.l0, hr, wrap64_id (n := (j : Int) + 1) (by omega) (by omega)]) ?_
  have hlt : (s.take a).length ≤ 4611686018427387904 := by simp; omega
  refine Ev.pos (by omega) (Ev.pos (by omega) (Ev.pos (by simp; omega) (Ev.ite (fun _ => next) (fun ha => Ev.pos (by omega) (Ev.pos (by omega) ?_)))))
  rw [ba_size] at ha
  rw [Int.toNat_natCast, ba_take]
  refine Ev.bind (TakeNumber_ev _ hlt) (Ev.bind (TakeText_ev _ hlt) (Ev.bind (TakeFrame_ev _ hlt) ?_))
  have e1 : s = frameL t → (tup3' (takeF (s.take a))).2.2 = 3 := by
    rintro rfl; show (((takeF ((frameL t).take a)).2.2 : Nat) : Int) = 3; rw [takeF_short t ht a (by omega)]; rfl
  have e2 : s = textL t → (tup3' (takeT (s.take a))).2.2 = 3 := by
    rintro rfl; show (((takeT ((textL t).take a)).2.2 : Nat) : Int) = 3; rw [takeT_short t ht a (by omega)]; rfl
  have e3 : s = numL n → (tup3 (takeN (s.take a))).2.2 = 3 := by
    rintro rfl; show (((takeN ((numL n).take a)).2.2 : Nat) : Int) = 3; rw [takeN_short n hn a (by omega)]; rfl
  have num : Ev (fun k => (pack_Number.f k (n : Int)).bind fun t244 => (if (ba s).toList = t244.toList then (if (tup3 (takeN (s.take a))).2.2 = 3 then (gafferlaw01_PackShort.l0 k n (ba t) a (ba (frameL t)) [ba (numL n), ba (textL t), ba (frameL t)] 3 ((j : Int) + 1)) else (some false)) else (gafferlaw01_PackShort.l0 k n (ba t) a (ba (frameL t)) [ba (numL n), ba (textL t), ba (frameL t)] 3 ((j : Int) + 1)))) true := by
    refine Ev.bind (Number_ev n hn) ?_
    rw [ba_list, ba_list]
    exact Ev.ite (fun h => Ev.pos (e3 h) next) (fun _ => next)
  refine Ev.ite (fun h => ?_) (fun h => ?_)
  · rw [ba_list, ba_list] at h
    refine Ev.pos (e1 h) (Ev.bind (Text_ev t (by omega)) (Ev.ite (fun h2 => ?_) (fun h2 => num)))
    rw [ba_list, ba_list] at h2
    exact Ev.pos (e2 h2) num
  · refine Ev.bind (Text_ev t (by omega)) (Ev.ite (fun h2 => ?_) (fun h2 => num))
    rw [ba_list, ba_list] at h2
    exact Ev.pos (e2 h2) num

theorem PackShort : gafferlaw01_PackShort.Pure := by
  intro n t at_ wn ht wat
  obtain ⟨n, rfl, hn⟩ := nat_of_u64 wn
  obtain ⟨t, rfl, ht'⟩ := exists_ba t
  rw [← ht'] at ht
  refine Ev.rounds (r := true) ?_
  unfold gafferlaw01_PackShort.f
  refine Ev.bind numbers_ev (Ev.pos rfl (Ev.bind frames_ev (Ev.pos rfl ?_)))
  have first : ∀ x : Bool, x = true → Ev (fun k => gafferlaw01_PackShort.j0 k (n : Int) (ba t) at_ x) true := by
    rintro x rfl
    refine Ev.step (f := fun k => (gafferlaw01_numbers.f k).bind fun b => (if b = true then ((gafferlaw01_frames.f k).bind fun c => (some c)) else (some false))) (fun k => by rw [gafferlaw01_PackShort.j0, if_pos rfl]) ?_
    exact Ev.bind numbers_ev (Ev.pos rfl (Ev.bind frames_ev (Ev.now _)))
  by_cases hl : 65536 < t.length
  · exact Ev.pos (by rw [ba_size]; omega) (first true rfl)
  · refine Ev.neg (by rw [ba_size]; omega) ?_
    by_cases h0 : at_ < 0
    · exact first _ (by simpa using h0)
    · obtain ⟨a, rfl⟩ : ∃ a : Nat, at_ = a := ⟨at_.toNat, by omega⟩
      refine Ev.step (f := fun k => ((pack_Frame.f k (ba t)).bind fun b => ((pack_Number.f k n).bind fun c => ((pack_Text.f k (ba t)).bind fun d => ((some (([c, d, b.1] : List ByteArray) : List ByteArray)).bind fun y => (gafferlaw01_PackShort.l0 k n (ba t) a b.1 y (y.length : Int) 0)))))) (fun k => by rw [gafferlaw01_PackShort.j0, if_neg (by simp)]) ?_
      have hF : frameR t = (ba (frameL t), 0) := by unfold frameR; rw [if_neg hl]
      refine Ev.bind (Frame_ev t (by omega)) (Ev.bind (Number_ev n hn) (Ev.bind (Text_ev t (by omega)) (Ev.bind_const ?_)))
      rw [hF]
      have h8 := nl_le n
      have h8' := nl_le t.length
      have last : Ev (fun k => gafferlaw01_PackShort.l0 k n (ba t) a (ba (frameL t)) [ba (numL n), ba (textL t), ba (frameL t)] 3 3) true := by
        refine Ev.step (f := fun _ => some true) (fun k => ?_) (Ev.now _)
        simp only [gafferlaw01_PackShort.l0]; rw [if_neg (by decide)]
      have third := round n t a hn (by omega) 2 (by decide) (frameL t) rfl (by rw [frameL_length]; omega) (by simp) last
      have second := round n t a hn (by omega) 1 (by decide) (textL t) rfl (by unfold textL; rw [List.length_append, numL_length]; omega) (by simp) third
      exact round n t a hn (by omega) 0 (by decide) (numL n) rfl (by rw [numL_length]; omega) (by simp) second
end Go.Proofs.Ytkmkbhiipieolaa.Pure
