/- 'dossierlaw33.ServerNobody': the tied card: the row, and the given tie. Conditions: none. -/
import Derived.Test.YtjdaalpcehnlbaaGreatDoorHolds
import Derived.Test.YtjdaalpcehnlbaaGreatDoorMyTie
import Derived.Test.YtjdaalpcehnlbaaGreatDoorCards
import Derived.Test.YtjdaalpcehnlbaaGreatDoorCf0
import Derived.Test.YtjdaalpcehnlbaaGreatDoorCf1
import Derived.Test.YtjdaalpcehnlbaaGreatDoorCf3
import Derived.Test.YtjdaalpcehnlbaaGreatDoorCf4
import Derived.Test.YtjdaalpcehnlbaaGreatDoorCf6
import Derived.SevenTiedAt
namespace Go.Proofs.YtjdaalpcehnlbaaGreatDoor
open Go
theorem serverNobody_card : Rows.ServerNobodyCardSaid :=
  Claim7.holds_tied_plain_at .later [] [.pinned, .data, .sentinel] true (true, "a1f672ae2a054814b3ce204811f740ee90094d4619f6b746f52eed239ecc3e97") true serverNobody_holds (fun _ h => by cases h) cf0 (fun _ h => by cases h) myRowTie rfl ⟨rfl, rfl⟩ cf1 rfl
    (fun f fn hf hfn => by
      obtain rfl : f = 3 := (Option.some.inj (cf2.symm.trans hf)).symm
      obtain rfl : fn = Tryz.f3 := (Option.some.inj (Tryz.func3.symm.trans hfn)).symm
      exact ⟨cf3, fun j t ht => by
        rw [Tryz.params3] at ht
        have hm : t ∈ [22, 23] := by simpa using Array.mem_of_getElem? ht
        exact (show Tryz.prog.wantsStandIn t = false by simpa using List.all_eq_true.1 cf4 t hm)⟩)
    cf5
end Go.Proofs.YtjdaalpcehnlbaaGreatDoor
