/- A fact of the card: the program's main. Conditions: none. -/
import Derived.Test.YtjdaalpcehnlbaaGreatDoorRows
import Derived.SevenTiedAt
namespace Go.Proofs.YtjdaalpcehnlbaaGreatDoor
open Go
theorem cf1 : Tryz.pinned.checked.prog.mainIs = some (true, "a1f672ae2a054814b3ce204811f740ee90094d4619f6b746f52eed239ecc3e97".toList) := by kernel_rfl
theorem cf2 : Tryz.prog.funcNamed "dossier/dossierlaw33.ServerNobody" = some 3 := by kernel_rfl
end Go.Proofs.YtjdaalpcehnlbaaGreatDoor
