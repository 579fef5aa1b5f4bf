/- A part of what answers in place. Conditions: none. -/
import Derived.Test.YtjdaalpcehnlbaaGreatDoorRows
import Derived.KernelRfl
import Derived.JoinedOf
namespace Go.Proofs.YtjdaalpcehnlbaaGreatDoor
open Go
set_option maxRecDepth 100000
def ipL2 : List Nat := [386, 142, 141, 143, 210, 306, 211, 144, 212, 307, 403, 404, 341, 337, 420, 213, 308, 405, 477, 478, 527, 528, 565, 566, 479, 529, 567, 481, 568, 530, 540, 569, 570, 480, 571, 572, 387, 470, 297, 396, 519, 558, 200, 139, 573, 602, 531, 574, 482, 406, 483, 532, 178, 575, 217, 309, 407, 408, 486, 409, 576, 577, 603, 484, 533, 578, 534, 579, 99, 112, 135, 190, 136, 191, 192, 284, 89, 193, 194, 286, 195, 196, 197, 287, 198, 288, 388, 392, 289, 389, 290, 390, 291, 137, 199, 292, 293, 247, 332, 395, 296, 113, 138, 201, 204]
theorem ip2 : (ipL2.filterMap fun g => (Tryz.prog.funcs[g]?).bind fun fn => if fn.ours || fn.body.isNone || fn.name == "runtime.NumGoroutine" then some fn.name else none) = ["internal/abi.NoEscape", "internal/bytealg.MakeNoZero", "internal/bytealg.CountString"] := by kernel_rfl
end Go.Proofs.YtjdaalpcehnlbaaGreatDoor
