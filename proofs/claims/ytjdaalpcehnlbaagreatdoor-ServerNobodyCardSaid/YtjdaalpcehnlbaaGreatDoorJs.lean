/- All closed facts of the row. Conditions: none. -/
import Derived.Test.YtjdaalpcehnlbaaGreatDoorJr
import Derived.Test.YtjdaalpcehnlbaaGreatDoorJl
import Derived.Test.YtjdaalpcehnlbaaGreatDoorLay
import Derived.Test.YtjdaalpcehnlbaaGreatDoorJh2
import Derived.Test.YtjdaalpcehnlbaaGreatDoorJh24
import Derived.Test.YtjdaalpcehnlbaaGreatDoorJh25
namespace Go.Proofs.YtjdaalpcehnlbaaGreatDoor
open Go
set_option maxRecDepth 100000
theorem joined : joinedFacts Tryz.prog 3 Tryz.f3 Rows.serverNobodySpec Rows.serverNobodyRow = true := by
  unfold joinedFacts
  simp only [Bool.and_eq_true]
  exact ⟨⟨⟨⟨⟨⟨⟨⟨⟨⟨⟨⟨⟨⟨⟨⟨⟨⟨⟨⟨⟨⟨⟨⟨⟨⟨⟨⟨⟨⟨⟨jf0, laidOut⟩, jf2⟩, jf3⟩, jf4⟩, jf5⟩, jf6⟩, jf7⟩, jf8⟩, jf9⟩, jf10⟩, jf11⟩, jf12⟩, jf13⟩, jf14⟩, jf15⟩, jf16⟩, jf17⟩, jf18⟩, jf19⟩, jf20⟩, jf21⟩, jf22⟩, jf23⟩, jf24⟩, jf25⟩, jf26⟩, jf27⟩, jf28⟩, jf29⟩, jf30⟩, jf31⟩
end Go.Proofs.YtjdaalpcehnlbaaGreatDoor
