import Derived.Test.YtcdibodjkdoknaaPMx15
import Derived.Test.YtcdibodjkdoknaaPMx11
import Derived.Test.YtcdibodjkdoknaaMgTakem
import Derived.Test.YtcdibodjkdoknaaPackLawm
namespace Go.Proofs.Ytcdibodjkdoknaa.Mg
open Go.RowKit YtcdibodjkdoknaaW.PrintWords YtcdibodjkdoknaaW.PrintLast YtcdibodjkdoknaaW.PrintMore Ytcdibodjkdoknaa.PM Ba Sn Wl
set_option linter.unusedVariables false
set_option linter.unusedSimpArgs false
attribute [local instance 10] Classical.propDecidable

abbrev Dec := Int × Int × Int × Int × Int × Bool × List S67 × Int × Int × List Int × ByteArray × Int
def noDec : Dec := (0, 0, 0, 0, 0, false, [], 0, 0, [], ⟨#[]⟩, 4)
theorem takeF_in (l : List UInt8) : (takeF l).1.length ≤ l.length := by
  unfold Ba.takeF
  repeat' split
  all_goals first | exact Nat.zero_le _ | (simp only [List.length_take, List.length_drop]; omega)
theorem Decode_no (l : List UInt8) (hl : l.length ≤ 4611686018427387903) (h : (takeF l).2.2 ≠ 0 ∨ (takeF l).2.1 ≠ []) : Ev (fun k => msg_Decode.f k (ba l)) noDec := by
  have h1 := takeF_in l
  unfold msg_Decode.f
  refine Ev.bind (TakeFrame_ev l (by omega)) (Ev.bind (tmsg_ev (takeF l).1 false (by omega)) ?_)
  show Ev (fun k => if ((takeF l).2.2 : Int) = 0 then (if (ba (takeF l).2.1).toList = ([] : List UInt8) then _ else some noDec) else some noDec) noDec
  refine Ev.ite (fun c => Ev.neg ?_ (Ev.now _)) (fun c => Ev.now _)
  rw [ba_list]
  exact h.resolve_left (fun e => e (by omega))
end Go.Proofs.Ytcdibodjkdoknaa.Mg
