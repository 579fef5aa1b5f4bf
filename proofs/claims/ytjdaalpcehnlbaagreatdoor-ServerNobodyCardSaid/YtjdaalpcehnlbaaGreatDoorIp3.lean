/- A part of what answers in place. Conditions: none. -/
import Derived.Test.YtjdaalpcehnlbaaGreatDoorRows
import Derived.KernelRfl
import Derived.JoinedOf
namespace Go.Proofs.YtjdaalpcehnlbaaGreatDoor
open Go
set_option maxRecDepth 100000
def ipL3 : List Nat := [298, 299, 398, 474, 524, 563, 335, 601, 525, 564, 397, 472, 520, 473, 521, 559, 593, 594, 595, 596, 597, 616, 617, 618, 619, 620, 599, 522, 560, 598, 600, 621, 622, 523, 562, 561, 202, 203, 53, 78, 64, 85, 86, 101, 115, 55, 88, 104, 117, 118, 146, 214, 263, 349, 219, 174, 145, 119, 147, 215, 148, 149, 150, 216, 218, 221, 311, 410, 222, 312, 220, 151, 223, 224, 313, 411, 120, 121, 152, 102, 122, 153, 225, 226, 314, 315, 316, 154, 123, 155, 227, 317, 228, 237, 318, 229, 319, 320, 412, 488, 538, 413, 321, 261, 348]
theorem ip3 : (ipL3.filterMap fun g => (Tryz.prog.funcs[g]?).bind fun fn => if fn.ours || fn.body.isNone || fn.name == "runtime.NumGoroutine" then some fn.name else none) = ["sync/atomic.LoadUint32", "(*internal/sync.Mutex).Lock", "internal/race.Disable", "sync/atomic.CompareAndSwapInt32", "internal/race.Enable", "internal/race.Acquire", "(*internal/sync.Mutex).lockSlow", "internal/sync.runtime_canSpin", "internal/sync.runtime_doSpin", "internal/sync.throw", "internal/sync.runtime_nanotime", "internal/sync.runtime_SemacquireMutex", "sync/atomic.AddInt32", "(*internal/sync.Mutex).Unlock", "internal/race.ReleaseMerge", "(*internal/sync.Mutex).unlockSlow", "internal/sync.fatal", "internal/sync.runtime_Semrelease", "sync/atomic.StoreUint32", "internal/bytealg.abigen_runtime_cmpstring", "slices.overlaps[dossier/api.Inst]"] := by kernel_rfl
end Go.Proofs.YtjdaalpcehnlbaaGreatDoor
