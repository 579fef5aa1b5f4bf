/- One closed fact of the tie. Conditions: none. -/
import Derived.Test.YtjdaalpcehnlbaaGreatDoorTf
namespace Go.Proofs.YtjdaalpcehnlbaaGreatDoor
open Go
set_option maxRecDepth 100000
theorem tf6 : ∀ (os : Os) (tape : Tape), varsDone Tryz.prog 400 (varsId Tryz.prog) os tape = true := fun _ _ => by kernel_rfl
end Go.Proofs.YtjdaalpcehnlbaaGreatDoor
