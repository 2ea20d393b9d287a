/- What the arguments of this seat's laws read as. No condition. -/
import Derived.Test.YtadmaagbnepcfaaF0
import Derived.Test.YtadmaagbnepcfaaOpens
namespace Go.Proofs.Ytadmaagbnepcfaa.F
open Go.RowKit Go.Proofs.YtadmaagbnepcfaaW.PrintWords Go.Proofs.YtadmaagbnepcfaaW.PrintLast Go.Proofs.YtadmaagbnepcfaaW.PrintMore

end Go.Proofs.Ytadmaagbnepcfaa.F
