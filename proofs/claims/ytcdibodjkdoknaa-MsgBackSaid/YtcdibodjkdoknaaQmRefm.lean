/- Members, counts, majorities: what the document's functions come to. No condition beside those in each row. -/
import Derived.Test.YtcdibodjkdoknaaQmBasem
namespace Go.Proofs.Ytcdibodjkdoknaa.Qm
open Go.RowKit Go.Proofs.YtcdibodjkdoknaaW.PrintWords Go.Proofs.YtcdibodjkdoknaaW.PrintLast Go.Proofs.YtcdibodjkdoknaaW.PrintMore Go.Proofs.Ytcdibodjkdoknaa.PM Go.Proofs.Ytcdibodjkdoknaa.Ba Go.Proofs.Ytcdibodjkdoknaa.Sh
set_option linter.unusedVariables false

end Go.Proofs.Ytcdibodjkdoknaa.Qm
