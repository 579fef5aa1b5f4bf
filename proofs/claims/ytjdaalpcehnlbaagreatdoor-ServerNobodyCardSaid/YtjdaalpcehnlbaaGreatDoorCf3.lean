/- A fact of the card: whether the program looks. Conditions: none. -/
import Derived.Test.YtjdaalpcehnlbaaGreatDoorRows
import Derived.SevenTiedAt
namespace Go.Proofs.YtjdaalpcehnlbaaGreatDoor
open Go
theorem cf3 : true = Tryz.prog.looks [] := by kernel_rfl
end Go.Proofs.YtjdaalpcehnlbaaGreatDoor
