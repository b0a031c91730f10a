/- The question that each law of this layer asks first is answered. No condition. -/
import Derived.Test.YtpigjmjbfpipnaaPBx12
import Derived.Test.YtpigjmjbfpipnaaBa
namespace Go.Proofs.Ytpigjmjbfpipnaa.Dk
open Go.RowKit Go.Proofs.YtpigjmjbfpipnaaW.PrintWords Go.Proofs.YtpigjmjbfpipnaaW.PrintLast Go.Proofs.YtpigjmjbfpipnaaW.PrintMore Go.Proofs.Ytpigjmjbfpipnaa.PB Go.Proofs.Ytpigjmjbfpipnaa.Ba
set_option linter.unusedVariables false

theorem lives_ev : Ev (fun k => gafferlaw04_lives.f k) true := Ev.of (k := 200) (fun k => gafferlaw04_lives.mono k) (by decide +kernel)
end Go.Proofs.Ytpigjmjbfpipnaa.Dk
