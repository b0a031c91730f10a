/- Frames one behind the other are taken one by one, as they were put. No condition beside the form's own. -/
import Derived.Test.YtkmkbhiipieolaaPAx5
import Derived.Test.YtkmkbhiipieolaaPackLaw
import Derived.Test.YtkmkbhiipieolaaOp
namespace Go.Proofs.Ytkmkbhiipieolaa.Pure
open Go.RowKit Go.Proofs.YtkmkbhiipieolaaW.PrintWords Go.Proofs.YtkmkbhiipieolaaW.PrintLast Go.Proofs.YtkmkbhiipieolaaW.PrintMore Go.Proofs.Ytkmkbhiipieolaa.PA Go.Proofs.Ytkmkbhiipieolaa.Ba Go.Proofs.Ytkmkbhiipieolaa.Op
set_option linter.unusedVariables false

/-- The frames of some, one behind the other. -/
def manyL : List (List UInt8) → List UInt8
  | [] => []
  | p :: r => frameL p ++ manyL r
theorem manyL_snoc : ∀ (l : List (List UInt8)) (p : List UInt8), manyL (l ++ [p]) = manyL l ++ frameL p
  | [], p => by simp [manyL]
  | q :: r, p => by rw [List.cons_append, manyL, manyL, manyL_snoc r p, List.append_assoc]
theorem wrap_up {j : Nat} (hb : j < 4611686018427387904) : wrap64 ((j : Int) + 1) = ((j + 1 : Nat) : Int) := by rw [wrap64_id (by omega) (by omega)]; omega
theorem rd_at (P : List ByteArray) (x : ByteArray) (R : List ByteArray) : rdOf ByteArray.empty (P ++ x :: R) (P.length : Int) = x := by
  unfold rdOf
  rw [Int.toNat_natCast, List.getD_eq_getElem?_getD, List.getElem?_append_right (Nat.le_refl _), Nat.sub_self]
  rfl
theorem Many_l1 : ∀ (R P : List (List UInt8)), (∀ p ∈ R, p.length ≤ 65536) → (manyL R).length ≤ 4611686018427387904 → P.length + R.length < 4611686018427387904 →
    Ev (fun k => gafferlaw01_PackMany.l1 k (ba (manyL R)) ((P ++ R).map ba) ((((P ++ R).map ba).length : Nat) : Int) (P.length : Int)) true
  | [], P, hR, hs, hl => by
    refine Ev.step (fun k => rfl) ?_
    simp only [gafferlaw01_PackMany.l1]
    refine Ev.neg (by rw [List.append_nil, List.length_map]; omega) ?_
    rw [show ((ba (manyL [])).toList == ([] : List UInt8)) = true by rw [ba_list]; rfl]
    exact Ev.now _
  | p :: R, P, hR, hs, hl => by
    have hp := hR p List.mem_cons_self
    have e : (P ++ p :: R).map ba = P.map ba ++ ba p :: R.map ba := by simp
    have hlen : ((P ++ p :: R).map ba).length = P.length + (R.length + 1) := by simp
    rw [List.length_cons] at hl
    have ih := Many_l1 R (P ++ [p]) (fun q hq => hR q (List.mem_cons_of_mem _ hq)) (by rw [manyL, List.length_append] at hs; omega) (by rw [List.length_append]; simp; omega)
    rw [List.append_assoc, show ([p] : List (List UInt8)) ++ R = p :: R from rfl, List.length_append, List.length_singleton] at ih
    refine Ev.step (fun k => rfl) ?_
    simp only [gafferlaw01_PackMany.l1]
    have hr : rdOf ByteArray.empty ((P ++ p :: R).map ba) (P.length : Int) = ba p := by
      rw [e]
      have := rd_at (P.map ba) (ba p) (R.map ba)
      rwa [List.length_map] at this
    refine Ev.pos (by omega) (Ev.pos (by omega) (Ev.pos (by omega) ?_))
    have ht := TakeFrame_ev (manyL (p :: R)) (by omega)
    rw [show manyL (p :: R) = frameL p ++ manyL R from rfl, takeF_frameL p (manyL R) hp] at ht
    rw [hr, wrap_up (by omega), show manyL (p :: R) = frameL p ++ manyL R from rfl]
    exact Ev.bind ht (Ev.pos rfl (Ev.pos rfl ih))
theorem Many_l0 : ∀ (R P : List (List UInt8)) (put : List (List UInt8)), (∀ p ∈ R, p.length ≤ 140737488351232) → P.length + R.length ≤ 8796093022208 → put.length ≤ P.length → (∀ p ∈ put, p.length ≤ 65536) → (manyL put).length ≤ 1065542 →
    Ev (fun k => gafferlaw01_PackMany.l0 k (ba (manyL put)) (put.map ba) ((P ++ R).map ba) ((((P ++ R).map ba).length : Nat) : Int) (P.length : Int)) true
  | [], P, put, hR, hl, hput, hp, hs => by
    refine Ev.step (fun k => rfl) ?_
    simp only [gafferlaw01_PackMany.l0]
    refine Ev.neg (by rw [List.append_nil, List.length_map]; omega) ?_
    have := Many_l1 put [] hp (by omega) (by simp; omega)
    simpa using this
  | p :: R, P, put, hR, hl, hput, hp, hs => by
    have hpl := hR p List.mem_cons_self
    have e : (P ++ p :: R).map ba = P.map ba ++ ba p :: R.map ba := by simp
    have hlen : ((P ++ p :: R).map ba).length = P.length + (R.length + 1) := by simp
    rw [List.length_cons] at hl
    have ih := fun put' h1 h2 h3 => Many_l0 R (P ++ [p]) put' (fun q hq => hR q (List.mem_cons_of_mem _ hq)) (by rw [List.length_append]; simp; omega) h1 h2 h3
    rw [List.append_assoc, show ([p] : List (List UInt8)) ++ R = p :: R from rfl, List.length_append, List.length_singleton] at ih
    refine Ev.step (fun k => rfl) ?_
    simp only [gafferlaw01_PackMany.l0]
    have hr : rdOf ByteArray.empty ((P ++ p :: R).map ba) (P.length : Int) = ba p := by
      rw [e]
      have := rd_at (P.map ba) (ba p) (R.map ba)
      rwa [List.length_map] at this
    refine Ev.pos (by omega) (Ev.pos (by omega) (Ev.pos (by omega) ?_))
    rw [hr, wrap_up (by omega)]
    have hF := Frame_ev p (by omega)
    by_cases hlong : 65536 < p.length
    · rw [show frameR p = (ba [], 2) by unfold frameR; rw [if_pos hlong]] at hF
      exact Ev.bind hF (Ev.neg (by decide) (ih put (by omega) hp hs))
    · rw [show frameR p = (ba (frameL p), 0) by unfold frameR; rw [if_neg hlong]] at hF
      refine Ev.bind hF (Ev.pos rfl ?_)
      have hfl := frameL_length p
      rw [ba_size]
      by_cases hbig : ((manyL put).length : Int) < 1000000
      · refine Ev.pos hbig (Ev.pos (by rw [ba_size]; omega) (Ev.pos (by rw [List.length_map]; omega) ?_))
        have := ih (put ++ [p]) (by rw [List.length_append]; simp; omega) (fun q hq => by
          rcases List.mem_append.1 hq with h | h
          · exact hp q h
          · rw [List.mem_singleton.1 h]; omega) (by rw [manyL_snoc, List.length_append]; omega)
        rw [manyL_snoc, ← ba_append, List.map_append] at this
        exact this
      · exact Ev.neg hbig (ih put (by omega) hp hs)
theorem PackMany : gafferlaw01_PackMany.Pure := by
  intro l hl
  obtain ⟨h1, h2⟩ := hl
  obtain ⟨l, rfl⟩ : ∃ L : List (List UInt8), l = L.map ba := ⟨l.map (fun s => s.data.toList), by rw [List.map_map]; exact (List.map_id l).symm.trans (List.map_congr_left (fun s _ => (ba_data s).symm))⟩
  rw [List.length_map] at h1
  refine Ev.rounds (g := fun k => gafferlaw01_PackMany.f k (l.map ba)) ?_
  unfold gafferlaw01_PackMany.f
  refine Ev.bind frames_ev (Ev.pos rfl ?_)
  exact Many_l0 l [] [] (fun p hp => by
    have : okStr (ba p) := h2 _ (List.mem_map_of_mem hp)
    unfold okStr at this
    rwa [ba_size] at this) (by simp; omega) (by simp) (by simp) (by simp [manyL])
end Go.Proofs.Ytkmkbhiipieolaa.Pure
