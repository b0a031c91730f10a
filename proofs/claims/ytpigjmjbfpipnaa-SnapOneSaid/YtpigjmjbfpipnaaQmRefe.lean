/- Members, counts, majorities: what the document's functions come to. No condition beside those in each row. -/
import Derived.Test.YtpigjmjbfpipnaaQmBasee
namespace Go.Proofs.Ytpigjmjbfpipnaa.Qm
open Go.RowKit Go.Proofs.YtpigjmjbfpipnaaW.PrintWords Go.Proofs.YtpigjmjbfpipnaaW.PrintLast Go.Proofs.YtpigjmjbfpipnaaW.PrintMore Go.Proofs.Ytpigjmjbfpipnaa.PE Go.Proofs.Ytpigjmjbfpipnaa.Ba Go.Proofs.Ytpigjmjbfpipnaa.Sh
set_option linter.unusedVariables false

end Go.Proofs.Ytpigjmjbfpipnaa.Qm
