/- A part of what answers in place. Conditions: none. -/
import Derived.Test.YtjdaalpcehnlbaaGreatDoorRows
import Derived.KernelRfl
import Derived.JoinedOf
namespace Go.Proofs.YtjdaalpcehnlbaaGreatDoor
open Go
set_option maxRecDepth 100000
def ipL1 : List Nat := [535, 580, 556, 557, 592, 615, 456, 511, 182, 273, 363, 362, 364, 366, 457, 365, 368, 460, 515, 458, 513, 459, 514, 536, 367, 183, 274, 275, 276, 369, 461, 370, 371, 383, 469, 487, 537, 581, 277, 372, 294, 295, 111, 132, 133, 184, 100, 114, 134, 185, 278, 374, 373, 186, 187, 279, 375, 462, 463, 376, 377, 378, 465, 464, 285, 188, 280, 281, 379, 466, 517, 516, 381, 518, 471, 467, 282, 380, 468, 391, 310, 382, 116, 140, 205, 300, 399, 475, 476, 400, 206, 207, 208, 301, 209, 302, 303, 402, 401, 384, 189, 304, 305, 283, 385]
theorem ip1 : (ipL1.filterMap fun g => (Tryz.prog.funcs[g]?).bind fun fn => if fn.ours || fn.body.isNone || fn.name == "runtime.NumGoroutine" then some fn.name else none) = ["internal/bytealg.IndexByteString", "internal/bytealg.IndexString", "maps.clone"] := by kernel_rfl
end Go.Proofs.YtjdaalpcehnlbaaGreatDoor
