import Derived.Test.YtpigjmjbfpipnaaPDx19
import Derived.Test.YtpigjmjbfpipnaaBad
namespace Go.Proofs.Ytpigjmjbfpipnaa.Dk
open Go.RowKit YtpigjmjbfpipnaaW.PrintWords YtpigjmjbfpipnaaW.PrintLast YtpigjmjbfpipnaaW.PrintMore Ytpigjmjbfpipnaa.PD Ba
set_option linter.unusedVariables false

theorem lives_ev : Ev (fun k => gafferlaw04_lives.f k) true := Ev.of (k := 200) (fun k => gafferlaw04_lives.mono k) (by decide +kernel)
end Go.Proofs.Ytpigjmjbfpipnaa.Dk
