/- The row's tie, out of closed facts that were built each in a text of its own. Conditions: none. -/
import Derived.Test.YtjdaalpcehnlbaaGreatDoorTf0
import Derived.Test.YtjdaalpcehnlbaaGreatDoorTf1
import Derived.Test.YtjdaalpcehnlbaaGreatDoorTf2
import Derived.Test.YtjdaalpcehnlbaaGreatDoorTf3
import Derived.Test.YtjdaalpcehnlbaaGreatDoorTf4
import Derived.Test.YtjdaalpcehnlbaaGreatDoorTf5
import Derived.Test.YtjdaalpcehnlbaaGreatDoorTf6
import Derived.Test.YtjdaalpcehnlbaaGreatDoorTf7
import Derived.Test.YtjdaalpcehnlbaaGreatDoorTf8
import Derived.Test.YtjdaalpcehnlbaaGreatDoorPin
namespace Go.Proofs.YtjdaalpcehnlbaaGreatDoor
open Go
theorem myTie : Tryz.prog.laidByTextLater laidTie [.data, .sentinel] true :=
  Program.laidByTextLater_by_run 400 8 tf0 tf1 tf2 tf3 tf4 tf5 tf6 tf7 tf8
theorem myRowTie : Rows.serverNobodyRow.laidByTextAt .later Tryz.pinned [.pinned, .data, .sentinel] true :=
  OpenClaim.laidByTextAt_pinned rfl rfl myTie rfl rfl rfl rfl (fun y hy _e => by
    simp only [Rows.serverNobodyRow, List.zip_cons_cons, List.zip_nil_right, List.mem_cons, List.mem_nil_iff, or_false] at hy
    rcases hy with rfl | rfl | rfl
    · exact ⟨pinFits, by kernel_rfl⟩
    · cases _e
    · cases _e) listed
end Go.Proofs.YtjdaalpcehnlbaaGreatDoor
