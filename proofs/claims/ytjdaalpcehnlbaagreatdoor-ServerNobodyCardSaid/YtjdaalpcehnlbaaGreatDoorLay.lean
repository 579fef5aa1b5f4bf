/- The program's tables are laid out: out of four parts. Conditions: none. -/
import Derived.Test.YtjdaalpcehnlbaaGreatDoorLayA
import Derived.Test.YtjdaalpcehnlbaaGreatDoorLayB
import Derived.Test.YtjdaalpcehnlbaaGreatDoorLayC
import Derived.Test.YtjdaalpcehnlbaaGreatDoorLayD
namespace Go.Proofs.YtjdaalpcehnlbaaGreatDoor
open Go
theorem laidOut : laidOutB Tryz.prog = true := by
  have hs : Tryz.prog.types.size = 794 := by kernel_rfl
  unfold laidOutB
  rw [hs]
  have h1 : (List.range 794).all (rowFine Tryz.prog) = true := by
    rw [List.all_eq_true]
    intro t ht
    rw [List.mem_range] at ht
    by_cases a : t < 200
    · exact List.all_eq_true.1 lo1 t (List.mem_range.2 a)
    · by_cases b : t < 500
      · exact List.all_eq_true.1 lo2 t (List.mem_range'_1.2 ⟨by omega, by omega⟩)
      · exact List.all_eq_true.1 lo3 t (List.mem_range'_1.2 ⟨by omega, by omega⟩)
  have h2 : (Tryz.prog.globals.all fun g => decide (g.type < 794)) = true := by kernel_rfl
  rw [h1, lo4, h2]
  rfl
end Go.Proofs.YtjdaalpcehnlbaaGreatDoor
