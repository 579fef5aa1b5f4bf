/-
  DERIVED. GIVEN WITH THE SEED: THE CARDS: each row of YtjdaalpcehnlbaaGreatDoorRows.lean that lists a variable, with what it lists TIED to the program's text (the seventh form; the later family's looks); each row that meets fmt, with fmt's text TOLD by the authors' own Lean function (tested against real Go, not proved from fmt's source: count such statements apart). THE CARD IS WHAT COUNTS. Prove the row's statement (the work); the ties are given (YtjdaalpcehnlbaaGreatDoorTie.lean); close each card by the builder's one call (the guide's Derived/Test/ToyasCard.lean, 'card_holds'). Laid BY PROGRAM, IN A SANDBOX (cutbox-door.mjs). By AI agents, Wed Nov 11 2026. No macro, syntax, notation, axiom, sorry.
-/
import Derived.Test.YtjdaalpcehnlbaaGreatDoorRows
import GoSem.ClaimSeven
namespace Go.Proofs.YtjdaalpcehnlbaaGreatDoor
namespace Rows

/-- THE TIED CARD OF 'dossierlaw33.ServerNobody'. -/
def serverNobodyCard : Claim7 := { stood := { row := serverNobodyRow, standIns := [], harness := (true, "a1f672ae2a054814b3ce204811f740ee90094d4619f6b746f52eed239ecc3e97"), looks := true }, kinds := [], alts := [], laidByText := true, laidKinds := [.pinned, .data, .sentinel], laidTests := true, laidLooks := .later }
def ServerNobodyCardSaid : Prop := Claim7.holds Tryz.pinned (.plain (OpenSpec.ofChange serverNobodySpec)) serverNobodyCard

/-- THE SECOND FORM's CARD OF 'dossierlaw33.ServerNobody'. -/
def serverNobodyUptoCard : Claim7 := { stood := { row := serverNobodyUptoRow, standIns := [], harness := (true, "a1f672ae2a054814b3ce204811f740ee90094d4619f6b746f52eed239ecc3e97"), looks := true }, kinds := [], alts := [], laidByText := true, laidKinds := [.pinned, .data, .sentinel], laidTests := true, laidLooks := .later }
def ServerNobodyUptoCardSaid : Prop := Claim7.holds Tryz.pinned (.plain (OpenSpec.upto serverNobodySpec)) serverNobodyUptoCard
end Rows
end Go.Proofs.YtjdaalpcehnlbaaGreatDoor
