/- What the arguments of this seat's laws read as. No condition. -/
import Derived.Test.YtijghmpapmfndaaDoorF0
import Derived.Test.YtijghmpapmfndaaDoorOpens
namespace Go.Proofs.YtijghmpapmfndaaDoor.F
open Go.RowKit Go.Proofs.YtijghmpapmfndaaDoorW.PrintWords Go.Proofs.YtijghmpapmfndaaDoorW.PrintLast Go.Proofs.YtijghmpapmfndaaDoorW.PrintMore

end Go.Proofs.YtijghmpapmfndaaDoor.F
