/- A part of what answers in place. Conditions: none. -/
import Derived.Test.YtjdaalpcehnlbaaGreatDoorRows
import Derived.KernelRfl
import Derived.JoinedOf
namespace Go.Proofs.YtjdaalpcehnlbaaGreatDoor
open Go
set_option maxRecDepth 100000
def ipL4 : List Nat := [427, 414, 489, 322, 323, 324, 415, 417, 491, 416, 490, 157, 231, 325, 232, 326, 233, 251, 254, 252, 336, 338, 339, 340, 327, 418, 346, 426, 495, 539, 582, 541, 542, 543, 583, 584, 604, 623, 624, 328, 257, 230, 235, 236, 331, 249, 330, 329, 234, 156, 158, 238, 159, 167, 256, 343, 344, 345, 425, 494, 492, 239, 240, 241, 160, 168, 162, 243, 333, 342, 421, 493, 422, 423, 424, 244, 245, 334, 242, 246, 248, 161, 163, 250, 164, 54, 87, 103, 124, 165, 170, 262, 253, 255, 166, 125, 169, 258, 260, 259, 347, 171, 126, 172, 173]
theorem ip4 : (ipL4.filterMap fun g => (Tryz.prog.funcs[g]?).bind fun fn => if fn.ours || fn.body.isNone || fn.name == "runtime.NumGoroutine" then some fn.name else none) = [] := by kernel_rfl
end Go.Proofs.YtjdaalpcehnlbaaGreatDoor
