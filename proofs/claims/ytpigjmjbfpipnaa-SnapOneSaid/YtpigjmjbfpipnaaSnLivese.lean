/- The question that each law of this layer asks first is answered. No condition. -/
import Derived.Test.YtpigjmjbfpipnaaPEx11
import Derived.Test.YtpigjmjbfpipnaaBae
namespace Go.Proofs.Ytpigjmjbfpipnaa.Sn
open Go.RowKit Go.Proofs.YtpigjmjbfpipnaaW.PrintWords Go.Proofs.YtpigjmjbfpipnaaW.PrintLast Go.Proofs.YtpigjmjbfpipnaaW.PrintMore Go.Proofs.Ytpigjmjbfpipnaa.PE Go.Proofs.Ytpigjmjbfpipnaa.Ba
set_option linter.unusedVariables false

theorem lives_ev : Ev (fun k => gafferlaw05_lives.f k) true := Ev.of (k := 300) (fun k => gafferlaw05_lives.mono k) (by decide +kernel)
end Go.Proofs.Ytpigjmjbfpipnaa.Sn
