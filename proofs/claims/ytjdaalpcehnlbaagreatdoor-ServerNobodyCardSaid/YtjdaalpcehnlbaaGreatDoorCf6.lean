/- A fact of the card: the call starts no goroutine. Conditions: none. -/
import Derived.Test.YtjdaalpcehnlbaaGreatDoorCf5
import Derived.Test.YtjdaalpcehnlbaaGreatDoorCf1
namespace Go.Proofs.YtjdaalpcehnlbaaGreatDoor
open Go
theorem noGoAt (g : Nat) : ((Tryz.prog.funcs[g]?).any Func.goes) = false := by
  cases h : Tryz.prog.funcs[g]? with
  | none => rfl
  | some f =>
    have hm : f ∈ Tryz.prog.funcs.toList := by
      rw [← Array.getElem?_toList] at h
      exact List.mem_of_getElem? h
    simpa using List.all_eq_true.1 noGo f hm
theorem noGoAll : Tryz.prog.funcs.any Func.goes = false := by
  rw [← Array.any_toList, List.any_eq_false]
  intro f hm
  simpa using List.all_eq_true.1 noGo f hm
theorem goes3 : Tryz.prog.goes 3 = false := by
  unfold Program.goes
  rw [noGoAll, Bool.and_false, Bool.or_false, List.any_eq_false]
  intro g _
  rw [noGoAt g]
  exact Bool.false_ne_true
theorem cf5 : false = Rows.serverNobodyRow.goesBy Tryz.pinned.checked.prog := by
  have h : Rows.serverNobodyRow.goesBy Tryz.pinned.checked.prog = ((Tryz.prog.funcNamed "dossier/dossierlaw33.ServerNobody").any Tryz.prog.goes || false) := rfl
  rw [h, cf2, Option.any_some, goes3]
  rfl
end Go.Proofs.YtjdaalpcehnlbaaGreatDoor
