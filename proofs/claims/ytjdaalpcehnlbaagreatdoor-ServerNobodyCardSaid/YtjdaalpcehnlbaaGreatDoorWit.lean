/- 'dossierlaw33.ServerNobody': a start that fits: the listed variables as their text lays them. Conditions: none. -/
import Derived.Test.YtjdaalpcehnlbaaGreatDoorRows
import Derived.Test.YtjdaalpcehnlbaaGreatDoorVxPart3
import Derived.WalkKit
import Derived.ProofKit
import Derived.ChangeOld
import Derived.LaidMore
import Derived.Stop.Joined
import Derived.Deep.DeepLaidRun
namespace Go.Proofs.YtjdaalpcehnlbaaGreatDoor
open Go Go.ChangeShapes Go.WideShapes Go.ChangeAt Go.RowKit
set_option linter.unusedVariables false
set_option maxRecDepth 100000
theorem noCpu : Vx.noCpu Tryz.prog = true := by kernel_rfl
def tables : List (String × DataW Unit) := [("unicode/utf8.first", Rows.laid_unicode_utf8_first), ("unicode/utf8.acceptRanges", Rows.laid_unicode_utf8_acceptRanges)]
noncomputable def witW (os : Os) : World :=
  let w := (Vx.fastWorld Tryz.prog os).layVars Tryz.prog tables
  { w with heap := ⟨w.heap.toList.set 3 (.cells #[.iface 765 (.pointer (some ⟨9, 0, .none⟩))] 341) ++ [.cells #[.string ⟨#[98, 121, 116, 101, 115, 46, 66, 117, 102, 102, 101, 114, 58, 32, 116, 111, 111, 32, 108, 97, 114, 103, 101]⟩] 792]⟩ }
theorem witW_os (os : Os) : (witW os).os = os := by
  unfold witW
  exact World.layVars_os _ _ _
noncomputable def witF (os : Os) : World := (witW os).forCall (fun _ _ => 0) ⟨#[], #[.slice .none 0 0, .slice .none 0 0], []⟩
theorem wit_vars (os : Os) : Vx.fastVars Tryz.prog (witF os) = true := by kernel_rfl
theorem wit_tail (os : Os) : ((witF os).heap.toList.drop Tryz.prog.globals.size).take 5 = Vx.tailB Tryz.prog := by kernel_rfl
theorem wit_shaped (os : Os) : (witF os).Shaped Tryz.prog := Vx.shaped_fast noCpu (wit_vars os) (wit_tail os)
theorem wit_laid (os : Os) : laidMetH Tryz.prog Rows.serverNobodyRow.laid (witF os).memory := by
  rw [MakeChecks.laidMetH_plain _ _ _ (by kernel_rfl)]
  exact laidMet_of_run3 8 (by kernel_rfl) (by kernel_rfl) (by kernel_rfl)
theorem wit_ok (os : Os) : Input.okWideB Tryz.prog (witF os) 3 ⟨#[], #[.slice .none 0 0, .slice .none 0 0], []⟩ = true := by kernel_rfl
theorem wit_pre (os : Os) (H : Type) (enc : TypeId × Value → H) : Rows.serverNobodySpec.preB enc Tryz.prog Tryz.f3 Rows.serverNobodyRow.domain false (witF os).memory #[.slice .none 0 0, .slice .none 0 0] 8 = true := by kernel_rfl
theorem wit_sized (os : Os) (H : Type) (enc : TypeId × Value → H) : Rows.serverNobodySpec.sizedB enc Tryz.prog Tryz.f3 false (witF os).memory #[.slice .none 0 0, .slice .none 0 0] 8 = true := by kernel_rfl
end Go.Proofs.YtjdaalpcehnlbaaGreatDoor
