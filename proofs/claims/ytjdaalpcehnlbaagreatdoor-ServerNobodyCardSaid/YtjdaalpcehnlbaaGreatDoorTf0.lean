/- One closed fact of the tie. Conditions: none. -/
import Derived.Test.YtjdaalpcehnlbaaGreatDoorTf
namespace Go.Proofs.YtjdaalpcehnlbaaGreatDoor
open Go
set_option maxRecDepth 100000
theorem tf0 : Tryz.prog.worded (varsWordLater true) = true := by kernel_rfl
end Go.Proofs.YtjdaalpcehnlbaaGreatDoor
