/- A fact of the card: no parameter wants a stand-in. Conditions: none. -/
import Derived.Test.YtjdaalpcehnlbaaGreatDoorRows
import Derived.SevenTiedAt
namespace Go.Proofs.YtjdaalpcehnlbaaGreatDoor
open Go
theorem cf4 : ([22, 23].all fun u => !Tryz.prog.wantsStandIn u) = true := by kernel_rfl
end Go.Proofs.YtjdaalpcehnlbaaGreatDoor
