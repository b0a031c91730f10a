import Derived.Test.YtcdibodjkdoknaaPMx4
import Derived.Test.YtcdibodjkdoknaaPMx2
import Derived.Test.YtcdibodjkdoknaaPMx3
import Derived.Test.YtcdibodjkdoknaaPMx19
import Derived.Test.YtcdibodjkdoknaaQmBasem
namespace Go.Proofs.Ytcdibodjkdoknaa.Mg
open Go.RowKit YtcdibodjkdoknaaW.PrintWords YtcdibodjkdoknaaW.PrintLast YtcdibodjkdoknaaW.PrintMore Ytcdibodjkdoknaa.PM Ba
set_option linter.unusedVariables false

theorem lives_ev : Ev (fun k => gafferlaw13_lives.f k) true := Ev.of (k := 300) (fun k => gafferlaw13_lives.mono k) (by decide +kernel)
theorem whole_ex (q t i lt c : Int) (ok : Bool) (l : List S67) (si st : Int) (ms : List Int) (d : ByteArray) : ∃ b, ∀ t, msg_whole.f q t i lt c ok l si st ms d = some b := by
  obtain ⟨n, hn⟩ : ∃ n, msg_nothing.f si st ms d = some n := by
    unfold msg_nothing.f
    repeat' split
    all_goals exact ⟨_, rfl⟩
  refine ⟨msg_whole.w q i lt c ok l n, fun t => ?_⟩
  unfold msg_whole.f
  rw [hn]
  rfl
end Go.Proofs.Ytcdibodjkdoknaa.Mg
