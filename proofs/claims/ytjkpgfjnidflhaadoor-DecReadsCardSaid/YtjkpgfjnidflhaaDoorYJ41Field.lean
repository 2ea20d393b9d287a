import Derived.ProofKit
import Derived.Test.YtjkpgfjnidflhaaDoorZF0
section
namespace Go.Proofs.YtjkpgfjnidflhaaDoor.F
open Go.RowKit
theorem field47_0 (x0 : Int) (x1 : Int) (x2 : Int) (x3 : ByteArray) (w : World) : (Instr.field 47 (.agg #[.int .u32 x0, .int .u32 x1, .int .u32 x2, .string x3]) 0).run Tryd.prog w = .ok (.int .u32 x0) w := by kernel_rfl
end Go.Proofs.YtjkpgfjnidflhaaDoor.F
end
