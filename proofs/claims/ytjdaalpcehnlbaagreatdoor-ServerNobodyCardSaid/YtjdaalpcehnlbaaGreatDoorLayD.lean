import Derived.Test.YtjdaalpcehnlbaaGreatDoorRows
import Derived.KernelRfl
import GoSem.ClaimDataLaid
namespace Go.Proofs.YtjdaalpcehnlbaaGreatDoor
open Go
theorem lo4 : (Tryz.prog.funcs.all (fun f => f.params.all fun t => decide (t < 794))) = true := by kernel_rfl
end Go.Proofs.YtjdaalpcehnlbaaGreatDoor
