/- What is asked ahead is so. No condition beside those in each row. -/
import Derived.Test.YtpdacpopkegecaaPAx8
import Derived.Test.YtpdacpopkegecaaBa
namespace Go.Proofs.Ytpdacpopkegecaa.Dk
open Go.RowKit Go.Proofs.YtpdacpopkegecaaW.PrintWords Go.Proofs.YtpdacpopkegecaaW.PrintLast Go.Proofs.YtpdacpopkegecaaW.PrintMore Go.Proofs.Ytpdacpopkegecaa.PA Go.Proofs.Ytpdacpopkegecaa.Ba Go.Proofs.Ytpdacpopkegecaa.Sh
set_option linter.unusedVariables false
attribute [local instance 10] Classical.propDecidable

theorem lives_ev : Ev (fun k => gafferlaw02_lives.f k) true := Ev.of (k := 30) (fun k => gafferlaw02_lives.mono k) (by decide +kernel)
end Go.Proofs.Ytpdacpopkegecaa.Dk
