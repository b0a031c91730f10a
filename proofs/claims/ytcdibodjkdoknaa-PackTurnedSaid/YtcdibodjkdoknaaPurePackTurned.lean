/- A frame with one bit turned is not read as a frame of the same length. No condition beside the form's own. -/
import Derived.Test.YtcdibodjkdoknaaPTx2
import Derived.Test.YtcdibodjkdoknaaPackTurnt
namespace Go.Proofs.Ytcdibodjkdoknaa.Pure
open Go.RowKit Go.Proofs.YtcdibodjkdoknaaW.PrintWords Go.Proofs.YtcdibodjkdoknaaW.PrintLast Go.Proofs.YtcdibodjkdoknaaW.PrintMore Go.Proofs.Ytcdibodjkdoknaa.PT Go.Proofs.Ytcdibodjkdoknaa.Ba
set_option linter.unusedVariables false

theorem bit_turned : ∀ (x : Fin 256) (n : Fin 8), UInt8.ofNat (bits .xor .u8 (x.val : Int) (2 ^ n.val % 256)).toNat ≠ UInt8.ofNat x.val := by decide +kernel
theorem turned_at (L : List UInt8) (i b : Int) (h0 : 0 ≤ i) (h1 : i < (L.length : Int)) (hb : 0 ≤ b) :
    ∃ A x y B, L = A ++ x :: B ∧ x ≠ y ∧ gafferlaw01_PackTurned.turned (ba L) i b = ba (A ++ y :: B) := by
  have hi : i.toNat < L.length := by omega
  refine ⟨L.take i.toNat, L[i.toNat], UInt8.ofNat (bits .xor .u8 (bt (ba L) i) (2 ^ (b % 8).toNat % 256)).toNat, L.drop (i.toNat + 1), ?_, ?_, ?_⟩
  · rw [← List.drop_eq_getElem_cons hi, List.take_append_drop]
  · have h := bit_turned ⟨(L[i.toNat]).toNat, UInt8.toNat_lt _⟩ ⟨(b % 8).toNat, by omega⟩
    have e : bt (ba L) i = ((L[i.toNat]).toNat : Int) := by
      rw [bt_ba, List.getD_eq_getElem?_getD, List.getElem?_eq_getElem hi]
      rfl
    rw [e]
    intro h2
    apply h
    show UInt8.ofNat (bits .xor .u8 ((L[i.toNat]).toNat : Int) (2 ^ (b % 8).toNat % 256)).toNat = UInt8.ofNat (L[i.toNat]).toNat
    rw [← h2]
    simp
  · unfold gafferlaw01_PackTurned.turned strOfNums bytesOf ba
    congr 1
    rw [List.map_set, List.map_map]
    have : (L.toArray.toList.map ((fun n : Int => UInt8.ofNat n.toNat) ∘ fun b : UInt8 => (b.toNat : Int))) = L := by
      rw [List.map_congr_left (g := id) (fun a _ => by simp), List.map_id]
    rw [this, List.set_eq_take_append_cons_drop, if_pos hi]
theorem PackTurned : gafferlaw01_PackTurned.Pure := by
  intro a0 i b h0 h1 h2
  obtain ⟨l, rfl, hl⟩ := exists_ba a0
  refine Ev.rounds (g := fun k => gafferlaw01_PackTurned.f k (ba l) i b) ?_
  unfold gafferlaw01_PackTurned.f
  have hb : 0 ≤ b := by
    simp only [Lit.wf, IntKind.min, IntKind.max, IntKind.signed, IntKind.bits, Bool.and_eq_true] at h2
    have := h2.1
    simp at this
    exact this
  refine Ev.bind frames_ev (Ev.pos rfl (Ev.bind (Frame_ev l (by omega)) ?_))
  unfold frameR
  by_cases c : 65536 < l.length
  · rw [if_pos c]
    exact Ev.neg (by decide) (Ev.now _)
  · rw [if_neg c]
    refine Ev.pos rfl (Ev.ite (fun _ => Ev.now _) (fun c1 => Ev.ite (fun _ => Ev.now _) (fun c2 => ?_)))
    have hs : (ba (frameL l)).size = (frameL l).length := ba_size _
    have hlen := frameL_length l
    have c2' : ¬ (((ba (frameL l)).size : Nat) : Int) ≤ i := c2
    refine Ev.pos (by show (ba (frameL l)).size ≤ _; omega) (Ev.pos hb ?_)
    obtain ⟨A, x, y, B, e1, hxy, e2⟩ := turned_at (frameL l) i b (by omega) (by omega) hb
    have key := frame_turned e1 hxy
    show Ev (fun k => (pack_TakeFrame.f k (gafferlaw01_PackTurned.turned (ba (frameL l)) i b)).bind _) true
    rw [e2]
    have hl2 : (A ++ y :: B).length = (frameL l).length := by rw [e1]; simp
    refine Ev.bind (TakeFrame_ev _ (by omega)) ?_
    show Ev (fun _ => if ((takeF (A ++ y :: B)).2.2 : Int) = 0 then (if wrap64 (((ba (takeF (A ++ y :: B)).1).size : Int) + ((ba (takeF (A ++ y :: B)).2.1).size : Int)) = ((ba l).size : Int) then some (((ba (takeF (A ++ y :: B)).1).size : Int) != ((ba l).size : Int)) else some true) else some true) true
    refine Ev.ite (fun c3 => Ev.ite (fun _ => ?_) (fun _ => Ev.now _)) (fun _ => Ev.now _)
    have hne := key (by omega)
    rw [show (((ba (takeF (A ++ y :: B)).1).size : Int) != ((ba l).size : Int)) = true from bne_iff_ne.mpr (by rw [ba_size, ba_size]; omega)]
    exact Ev.now _
end Go.Proofs.Ytcdibodjkdoknaa.Pure
