import Derived.Test.YtcdibodjkdoknaaPMx2
import Derived.Test.YtcdibodjkdoknaaMgSamem
import Derived.Test.YtcdibodjkdoknaaPackLawm
namespace Go.Proofs.Ytcdibodjkdoknaa.Mg
open Go.RowKit YtcdibodjkdoknaaW.PrintWords YtcdibodjkdoknaaW.PrintLast YtcdibodjkdoknaaW.PrintMore Ytcdibodjkdoknaa.PM Ba Sn
set_option linter.unusedVariables false
set_option linter.unusedSimpArgs false

structure Right (q t i lt c : Int) (ok : Bool) (l : List S67) (si st : Int) (ms : List Int) (d : ByteArray) : Prop where
  kind : 0 < q ∧ q < 6
  ut : U64 t
  ui : U64 i
  ult : U64 lt
  uc : U64 c
  usi : U64 si
  ust : U64 st
  ein : ∀ e ∈ l, EntIn e
  eok : ∀ e ∈ l, EntOk e
  few : l.length ≤ 8
  snap : q = 5 → snapOk si st ms d.toList
  whole : msg_whole.f q t i lt c ok l si st ms d = some true
end Go.Proofs.Ytcdibodjkdoknaa.Mg
