/- Facts of the card: nothing in the program starts a goroutine. Conditions: none. -/
import Derived.Test.YtjdaalpcehnlbaaGreatDoorRows
import Derived.SevenTiedAt
namespace Go.Proofs.YtjdaalpcehnlbaaGreatDoor
open Go
theorem noGo : (Tryz.prog.funcs.toList.all fun f => !f.goes) = true := by kernel_rfl
end Go.Proofs.YtjdaalpcehnlbaaGreatDoor
