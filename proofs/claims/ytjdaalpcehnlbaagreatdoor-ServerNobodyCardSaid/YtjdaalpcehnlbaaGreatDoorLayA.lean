import Derived.Test.YtjdaalpcehnlbaaGreatDoorRows
import Derived.KernelRfl
import GoSem.ClaimDataLaid
namespace Go.Proofs.YtjdaalpcehnlbaaGreatDoor
open Go
theorem lo1 : ((List.range 200).all (rowFine Tryz.prog)) = true := by kernel_rfl
end Go.Proofs.YtjdaalpcehnlbaaGreatDoor
