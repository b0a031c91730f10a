/- A packet of which one bit is turned is none. No condition beside the form's own. -/
import Derived.Test.YtcdibodjkdoknaaPMx12
import Derived.Test.YtcdibodjkdoknaaPackTurnm
import Derived.Test.YtcdibodjkdoknaaMgEncm
import Derived.Test.YtcdibodjkdoknaaMgDecm
import Derived.Test.YtcdibodjkdoknaaMgCheckm
namespace Go.Proofs.Ytcdibodjkdoknaa.Pure
open Go.RowKit Go.Proofs.YtcdibodjkdoknaaW.PrintWords Go.Proofs.YtcdibodjkdoknaaW.PrintLast Go.Proofs.YtcdibodjkdoknaaW.PrintMore Go.Proofs.Ytcdibodjkdoknaa.PM Go.Proofs.Ytcdibodjkdoknaa.Ba Go.Proofs.Ytcdibodjkdoknaa.Mg Go.Proofs.Ytcdibodjkdoknaa.Op
set_option linter.unusedVariables false
set_option linter.unusedSimpArgs false

theorem bit_turned : ∀ (x : Fin 256) (n : Fin 8), UInt8.ofNat (bits .xor .u8 (x.val : Int) (2 ^ n.val % 256)).toNat ≠ UInt8.ofNat x.val := by decide +kernel
theorem turned_at (L : List UInt8) (i b : Int) (h0 : 0 ≤ i) (h1 : i < (L.length : Int)) (hb : 0 ≤ b) :
    ∃ A x y B, L = A ++ x :: B ∧ x ≠ y ∧ gafferlaw13_MsgTurned.turned (ba L) i b = ba (A ++ y :: B) := by
  have hi : i.toNat < L.length := by omega
  refine ⟨L.take i.toNat, L[i.toNat], UInt8.ofNat (bits .xor .u8 (bt (ba L) i) (2 ^ (b % 8).toNat % 256)).toNat, L.drop (i.toNat + 1), ?_, ?_, ?_⟩
  · rw [← List.drop_eq_getElem_cons hi, List.take_append_drop]
  · have h := bit_turned ⟨(L[i.toNat]).toNat, UInt8.toNat_lt _⟩ ⟨(b % 8).toNat, by omega⟩
    have e : bt (ba L) i = ((L[i.toNat]).toNat : Int) := by
      rw [bt_ba, List.getD_eq_getElem?_getD, List.getElem?_eq_getElem hi]
      rfl
    rw [e]
    intro h2
    apply h
    show UInt8.ofNat (bits .xor .u8 ((L[i.toNat]).toNat : Int) (2 ^ (b % 8).toNat % 256)).toNat = UInt8.ofNat (L[i.toNat]).toNat
    rw [← h2]
    simp
  · unfold gafferlaw13_MsgTurned.turned strOfNums bytesOf ba
    congr 1
    rw [List.map_set, List.map_map]
    have : (L.toArray.toList.map ((fun n : Int => UInt8.ofNat n.toNat) ∘ fun b : UInt8 => (b.toNat : Int))) = L := by
      rw [List.map_congr_left (g := id) (fun a _ => by simp), List.map_id]
    rw [this, List.set_eq_take_append_cons_drop, if_pos hi]
theorem MsgTurned : gafferlaw13_MsgTurned.Pure := by
  intro x i b hx hi hbit
  refine Ev.rounds (g := fun k => gafferlaw13_MsgTurned.f k x.f0 x.f1 x.f2 x.f3 x.f4 x.f5 x.f6 x.f7.f0 x.f7.f1 x.f7.f2 x.f7.f3 i b) ?_
  obtain ⟨F, r, e1, k1⟩ := ap_encode x hx
  have hb : 0 ≤ b := (u8_of hbit).1
  unfold gafferlaw13_MsgTurned.f
  refine Ev.bind lives_ev (Ev.pos rfl (Ev.bind e1 ?_))
  by_cases c : r = 0
  · obtain ⟨_, rfl, hl⟩ := k1 c
    generalize msgL x.f0 x.f1 x.f2 x.f3 x.f4 x.f5 x.f6 x.f7.f0 x.f7.f1 x.f7.f2 x.f7.f3 = p at hl
    refine Ev.pos c (Ev.ite (fun _ => Ev.now _) (fun c1 => Ev.ite (fun _ => Ev.now _) (fun c2 => ?_)))
    have hs : (ba (frameL p)).size = (frameL p).length := ba_size _
    have hlen := frameL_length p
    have c2' : ¬ (((ba (frameL p)).size : Nat) : Int) ≤ i := c2
    refine Ev.pos (by show (ba (frameL p)).size ≤ _; omega) (Ev.pos hb ?_)
    obtain ⟨A, u, v, B, e1, huv, e2⟩ := turned_at (frameL p) i b (by omega) (by omega) hb
    have key := frame_turned e1 huv
    have hl2 : (A ++ v :: B).length = (frameL p).length := by rw [e1]; simp
    have hno : (takeF (A ++ v :: B)).2.2 ≠ 0 ∨ (takeF (A ++ v :: B)).2.1 ≠ [] := by
      by_cases c3 : (takeF (A ++ v :: B)).2.2 = 0
      · refine .inr (fun e => key c3 ?_)
        obtain ⟨h1, _⟩ := takeF_inv c3
        have h2 := congrArg List.length h1
        rw [e, List.append_nil, frameL_length, hl2, hlen] at h2
        omega
      · exact .inl c3
    show Ev (fun k => (msg_Decode.f k (gafferlaw13_MsgTurned.turned (ba (frameL p)) i b)).bind _) true
    rw [e2]
    exact Ev.bind (Decode_no _ (by omega) hno) (Ev.now _)
  · exact Ev.neg c (Ev.now _)
end Go.Proofs.Ytcdibodjkdoknaa.Pure
