/- 'dossierlaw33.ServerNobody': a run of the virtual executor, in the kernel: its two arguments are tokens. Conditions: none. -/
import Derived.Test.YtjdaalpcehnlbaaGreatDoorProg
import Derived.Test.YtjdaalpcehnlbaaGreatDoorVxPart3
import Derived.KernelRfl
namespace Go.Proofs.YtjdaalpcehnlbaaGreatDoor
theorem run_true : Vx.saysTrue (Vx.ex Tryz.prog [] 1000000 (.call 3 #[.complex .f64 0 0, .complex .f64 1 0]) Vx.start) = true := by kernel_rfl
end Go.Proofs.YtjdaalpcehnlbaaGreatDoor
