/- Members, counts, majorities: what the document's functions come to. No condition beside those in each row. -/
import Derived.Test.YtcdibodjkdoknaaQmBasem
namespace Go.Proofs.Ytcdibodjkdoknaa.Qm
open Go.RowKit Go.Proofs.YtcdibodjkdoknaaW.PrintWords Go.Proofs.YtcdibodjkdoknaaW.PrintLast Go.Proofs.YtcdibodjkdoknaaW.PrintMore Go.Proofs.Ytcdibodjkdoknaa.PM Go.Proofs.Ytcdibodjkdoknaa.Ba Go.Proofs.Ytcdibodjkdoknaa.Sh
set_option linter.unusedVariables false

/-- What stood last: 0 at the beginning. -/
def lst (P : List Int) : Int := P.getLast?.getD 0
theorem lst_snoc (P : List Int) (x : Int) : lst (P ++ [x]) = x := by simp [lst]
theorem rd_last {l P R : List Int} {q : Int} (e : l = (P ++ [q]) ++ R) : rd l (((P ++ [q]).length - 1 : Nat) : Int) = q := by
  have : (P ++ [q]).length - 1 = P.length := by simp
  rw [this, e, List.append_assoc]
  exact rd_app P q R
end Go.Proofs.Ytcdibodjkdoknaa.Qm
