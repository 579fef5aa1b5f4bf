/- What the row says of what the law reaches. Conditions: none. -/
import Derived.Test.YtjdaalpcehnlbaaGreatDoorCl
import Derived.Test.YtjdaalpcehnlbaaGreatDoorIp0
import Derived.Test.YtjdaalpcehnlbaaGreatDoorIp1
import Derived.Test.YtjdaalpcehnlbaaGreatDoorIp2
import Derived.Test.YtjdaalpcehnlbaaGreatDoorIp3
import Derived.Test.YtjdaalpcehnlbaaGreatDoorIp4
import Derived.Test.YtjdaalpcehnlbaaGreatDoorIp5
namespace Go.Proofs.YtjdaalpcehnlbaaGreatDoor
open Go
set_option maxRecDepth 100000
theorem unf : Tryz.prog.unfollowed 3 = true := by
  unfold Program.unfollowed
  rw [cl]
  kernel_rfl
theorem jf10 : (Rows.serverNobodyRow.unfollowed == Tryz.prog.unfollowed 3) = true := by
  rw [unf]
  rfl
theorem jf11 : (Rows.serverNobodyRow.recurses == Tryz.prog.recurses 3) = true := by
  unfold Program.recurses
  rw [unf]
  rfl
theorem parts : clL = ipL0 ++ ipL1 ++ ipL2 ++ ipL3 ++ ipL4 ++ ipL5 := by kernel_rfl
theorem jf9 : (Rows.serverNobodyRow.inPlace == Tryz.prog.inPlace 3) = true := by
  unfold Program.inPlace
  rw [cl, parts]
  simp only [List.filterMap_append]
  rw [ip0, ip1, ip2, ip3, ip4, ip5]
  kernel_rfl
theorem gn_list : (clL.flatMap fun g => ((Tryz.prog.funcs[g]?).bind (·.body)).elim [] Code.globalsNamed) = clL.flatMap fun g => gnT.getD g [] := by rw [gn_eq]
theorem jf12 : (Rows.serverNobodyRow.named == Tryz.prog.varsNamed 3) = true := by
  unfold Program.varsNamed
  rw [cl, gn_list]
  kernel_rfl
end Go.Proofs.YtjdaalpcehnlbaaGreatDoor
