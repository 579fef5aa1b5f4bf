import Derived.Test.YtjdaalpcehnlbaaGreatDoorRows
import Derived.KernelRfl
import GoSem.ClaimDataLaid
namespace Go.Proofs.YtjdaalpcehnlbaaGreatDoor
open Go
theorem lo3 : ((List.range' 500 294).all (rowFine Tryz.prog)) = true := by kernel_rfl
end Go.Proofs.YtjdaalpcehnlbaaGreatDoor
