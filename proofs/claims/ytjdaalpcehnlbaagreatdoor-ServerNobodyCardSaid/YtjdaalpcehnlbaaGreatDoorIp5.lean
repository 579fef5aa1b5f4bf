/- A part of what answers in place. Conditions: none. -/
import Derived.Test.YtjdaalpcehnlbaaGreatDoorRows
import Derived.KernelRfl
import Derived.JoinedOf
namespace Go.Proofs.YtjdaalpcehnlbaaGreatDoor
open Go
set_option maxRecDepth 100000
def ipL5 : List Nat := [175, 264, 350, 428, 429, 430, 351, 431, 432, 433, 434, 447, 500, 499, 435, 436, 439, 438, 265, 437, 266, 352, 440, 441, 442, 496, 497, 498, 544, 545, 585, 605, 353, 443, 445, 446, 444, 354, 448, 355, 356, 127, 176, 56, 35, 60, 61, 71, 96, 95, 105, 70, 94, 65, 67, 93, 72, 14, 13, 27, 36, 28, 30, 58, 29, 33, 43, 73, 66, 11, 5, 6, 7, 8, 16, 17, 40, 41, 42, 68, 92, 69, 19, 18, 44, 74, 75, 77, 97, 106, 107, 108, 109, 128, 177, 267, 20, 21, 24, 57, 9, 25]
theorem ip5 : (ipL5.filterMap fun g => (Tryz.prog.funcs[g]?).bind fun fn => if fn.ours || fn.body.isNone || fn.name == "runtime.NumGoroutine" then some fn.name else none) = ["slices.overlaps[dossier/api.Doc]"] := by kernel_rfl
end Go.Proofs.YtjdaalpcehnlbaaGreatDoor
