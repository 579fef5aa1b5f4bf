/- One closed fact of the row. Conditions: none. -/
import Derived.Test.YtjdaalpcehnlbaaGreatDoorRows
import Derived.KernelRfl
import Derived.JoinedOf
namespace Go.Proofs.YtjdaalpcehnlbaaGreatDoor
open Go
set_option maxRecDepth 100000
theorem jf25 : (Tryz.prog.mayEnter) = true := by kernel_rfl
end Go.Proofs.YtjdaalpcehnlbaaGreatDoor
