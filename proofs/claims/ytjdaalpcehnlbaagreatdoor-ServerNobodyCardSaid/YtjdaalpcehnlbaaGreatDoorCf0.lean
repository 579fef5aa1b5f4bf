/- A fact of the card: the row's form. Conditions: none. -/
import Derived.Test.YtjdaalpcehnlbaaGreatDoorRows
import Derived.SevenTiedAt
namespace Go.Proofs.YtjdaalpcehnlbaaGreatDoor
open Go
theorem cf0 : Rows.serverNobodyRow.wfByText (OpenSpec.ofChange Rows.serverNobodySpec) = true := by kernel_rfl
end Go.Proofs.YtjdaalpcehnlbaaGreatDoor
