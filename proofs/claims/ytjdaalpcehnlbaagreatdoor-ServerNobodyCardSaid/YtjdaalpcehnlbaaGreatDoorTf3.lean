/- One closed fact of the tie. Conditions: none. -/
import Derived.Test.YtjdaalpcehnlbaaGreatDoorTf
namespace Go.Proofs.YtjdaalpcehnlbaaGreatDoor
open Go
set_option maxRecDepth 100000
theorem tf3 : List.map (fun x => Tryz.prog.kindOfLater x.fst) laidTie = List.map some [LaidKind.data, LaidKind.sentinel] := by kernel_rfl
end Go.Proofs.YtjdaalpcehnlbaaGreatDoor
