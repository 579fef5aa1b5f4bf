/- A part of what answers in place. Conditions: none. -/
import Derived.Test.YtjdaalpcehnlbaaGreatDoorRows
import Derived.KernelRfl
import Derived.JoinedOf
namespace Go.Proofs.YtjdaalpcehnlbaaGreatDoor
open Go
set_option maxRecDepth 100000
def ipL0 : List Nat := [3, 4, 10, 12, 15, 37, 22, 45, 38, 46, 79, 81, 80, 47, 48, 82, 83, 49, 50, 76, 31, 32, 59, 34, 90, 62, 39, 63, 91, 23, 51, 52, 84, 98, 110, 129, 179, 268, 357, 180, 269, 130, 131, 181, 270, 358, 26, 359, 449, 501, 546, 502, 503, 504, 547, 360, 450, 393, 394, 451, 271, 272, 361, 452, 453, 505, 548, 506, 507, 549, 586, 606, 625, 485, 626, 454, 508, 550, 509, 551, 587, 607, 608, 609, 627, 610, 628, 455, 510, 552, 512, 553, 588, 589, 611, 612, 613, 629, 554, 555, 590, 614, 419, 591, 526]
theorem ip0 : (ipL0.filterMap fun g => (Tryz.prog.funcs[g]?).bind fun fn => if fn.ours || fn.body.isNone || fn.name == "runtime.NumGoroutine" then some fn.name else none) = ["internal/bytealg.IndexByte", "internal/bytealg.Index", "internal/bytealg.Count"] := by kernel_rfl
end Go.Proofs.YtjdaalpcehnlbaaGreatDoor
