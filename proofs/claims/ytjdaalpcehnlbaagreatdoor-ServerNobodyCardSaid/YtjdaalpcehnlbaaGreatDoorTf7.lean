/- One closed fact of the tie. Conditions: none. -/
import Derived.Test.YtjdaalpcehnlbaaGreatDoorTf
namespace Go.Proofs.YtjdaalpcehnlbaaGreatDoor
open Go
set_option maxRecDepth 100000
theorem tf7 : ∀ (os : Os) (tape : Tape), Option.map (fun x => x.fst) (DataW.laidRun Tryz.prog (varsWorld Tryz.prog 400 (varsId Tryz.prog) os tape).memory 8 (List.map (fun x => x.fst) laidTie)) = some laidTie := fun _ _ => by kernel_rfl
end Go.Proofs.YtjdaalpcehnlbaaGreatDoor
