/- A packet that is taken: what it comes to, by the program. No condition but that bytes are not too many. -/
import Derived.Test.YtcdibodjkdoknaaPMx10
import Derived.Test.YtcdibodjkdoknaaPMx6
import Derived.Test.YtcdibodjkdoknaaMgTakem
import Derived.Test.YtcdibodjkdoknaaPackLawm
namespace Go.Proofs.Ytcdibodjkdoknaa.Mg
open Go.RowKit Go.Proofs.YtcdibodjkdoknaaW.PrintWords Go.Proofs.YtcdibodjkdoknaaW.PrintLast Go.Proofs.YtcdibodjkdoknaaW.PrintMore Go.Proofs.Ytcdibodjkdoknaa.PM Go.Proofs.Ytcdibodjkdoknaa.Ba Go.Proofs.Ytcdibodjkdoknaa.Sn Go.Proofs.Ytcdibodjkdoknaa.Wl
set_option linter.unusedVariables false
set_option linter.unusedSimpArgs false
attribute [local instance 10] Classical.propDecidable

abbrev Dec := Int × Int × Int × Int × Int × Bool × List S67 × Int × Int × List Int × ByteArray × Int
def noDec : Dec := (0, 0, 0, 0, 0, false, [], 0, 0, [], ⟨#[]⟩, 4)
theorem takeF_in (l : List UInt8) : (takeF l).1.length ≤ l.length := by
  unfold Ba.takeF
  repeat' split
  all_goals first | exact Nat.zero_le _ | (simp only [List.length_take, List.length_drop]; omega)
/-- Bytes that do not begin with a frame, or go on behind it, are no packet. -/
theorem Decode_no (l : List UInt8) (hl : l.length ≤ 4611686018427387903) (h : (takeF l).2.2 ≠ 0 ∨ (takeF l).2.1 ≠ []) : Ev (fun k => msg_Decode.f k (ba l)) noDec := by
  have h1 := takeF_in l
  unfold msg_Decode.f
  refine Ev.bind (TakeFrame_ev l (by omega)) (Ev.bind (tmsg_ev (takeF l).1 false (by omega)) ?_)
  show Ev (fun k => if ((takeF l).2.2 : Int) = 0 then (if (ba (takeF l).2.1).toList = ([] : List UInt8) then _ else some noDec) else some noDec) noDec
  refine Ev.ite (fun c => Ev.neg ?_ (Ev.now _)) (fun c => Ev.now _)
  rw [ba_list]
  exact h.resolve_left (fun e => e (by omega))
/-- Two packets one behind the other are none. -/
theorem Decode_more (p r : List UInt8) (hp : p.length ≤ 65536) (hr : r ≠ []) (hl : r.length ≤ 1000000) : Ev (fun k => msg_Decode.f k (ba (frameL p ++ r))) noDec := by
  have h := takeF_frameL p r hp
  refine Decode_no _ (by rw [List.length_append, frameL_length]; omega) (.inr ?_)
  rw [h]
  exact hr
/-- A packet cut short is none. -/
theorem Decode_less (p : List UInt8) (hp : p.length ≤ 65536) (n : Nat) (hn : n < (frameL p).length) : Ev (fun k => msg_Decode.f k (ba ((frameL p).take n))) noDec := by
  have h := takeF_short p hp n hn
  refine Decode_no _ (by rw [List.length_take]; have := frameL_length p; omega) (.inl ?_)
  rw [h]
  decide
end Go.Proofs.Ytcdibodjkdoknaa.Mg
