/- One closed fact of the tie. Conditions: none. -/
import Derived.Test.YtjdaalpcehnlbaaGreatDoorTf
namespace Go.Proofs.YtjdaalpcehnlbaaGreatDoor
open Go
set_option maxRecDepth 100000
theorem tf4 : (Tryz.prog.funcNamed "gosem.cut.vars").isSome = true := by kernel_rfl
end Go.Proofs.YtjdaalpcehnlbaaGreatDoor
