/- 'dossierlaw33.ServerNobody': the statement's row, out of its step. Conditions: none beyond the row's. -/
import Derived.Test.YtjdaalpcehnlbaaGreatDoorRow
import Derived.Test.YtjdaalpcehnlbaaGreatDoorJs
namespace Go.Proofs.YtjdaalpcehnlbaaGreatDoor
open Go Go.ChangeShapes Go.WideShapes Go.ChangeAt Go.RowKit
theorem serverNobody_holds : Rows.ServerNobodySaid :=
  OpenClaim.holds_of_wide 3 Tryz.f3 rfl rfl rfl rfl rfl rfl rfl ⟨rfl, rfl, rfl, rfl, rfl⟩ rfl rfl rfl rfl rfl (by kernel_rfl) Tryz.func3 joined
    (of_decide_eq_true (by kernel_rfl)) (by unfold Func.isWrapper; first | (rw [if_pos (by decide +kernel)]; kernel_rfl) | (rw [if_neg (by decide +kernel)]; exact ⟨rfl, rfl⟩))
    (fun os started H enc _ => lifted os started H enc)
end Go.Proofs.YtjdaalpcehnlbaaGreatDoor
