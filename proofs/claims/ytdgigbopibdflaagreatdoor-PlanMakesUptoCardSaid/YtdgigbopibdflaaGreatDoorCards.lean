/-
  DERIVED. GIVEN WITH THE SEED: THE CARDS: each row of YtdgigbopibdflaaGreatDoorRows.lean that lists a variable, with what it lists TIED to the program's text (the seventh form; the later family's looks); each row that meets fmt, with fmt's text TOLD by the authors' own Lean function (tested against real Go, not proved from fmt's source: count such statements apart). THE CARD IS WHAT COUNTS. Prove the row's statement (the work); the ties are given (YtdgigbopibdflaaGreatDoorTie.lean); close each card by the builder's one call (the guide's Derived/Test/ToyasCard.lean, 'card_holds'). Laid BY PROGRAM, IN A SANDBOX (cutbox-door.mjs). By AI agents, Wed Nov 11 2026. No macro, syntax, notation, axiom, sorry.
-/
import Derived.Test.YtdgigbopibdflaaGreatDoorRows
import GoSem.ClaimSeven
namespace Go.Proofs.YtdgigbopibdflaaGreatDoor
namespace Rows

/-- THE TIED CARD OF 'hearsaylaw09.PlanMakes'. -/
def planMakesCard : Claim7 := { stood := { row := planMakesRow, standIns := [], harness := (true, "f1f417ffa55ac0498e2adab01b29d37787fb90a20e4f4696b6e7156f1e25e397"), looks := false }, kinds := [], alts := [], laidByText := true, laidKinds := [.data, .data, .data, .data, .data, .data, .funcs], laidTests := true, laidLooks := .later }
def PlanMakesCardSaid : Prop := Claim7.holds Tryz.pinned (.plain (OpenSpec.ofChange planMakesSpec)) planMakesCard

/-- THE TIED CARD OF 'hearsaylaw09.PlanSolves'. -/
def planSolvesCard : Claim7 := { stood := { row := planSolvesRow, standIns := [], harness := (true, "f1f417ffa55ac0498e2adab01b29d37787fb90a20e4f4696b6e7156f1e25e397"), looks := false }, kinds := [], alts := [], laidByText := true, laidKinds := [.data, .data, .data, .data, .data, .data, .funcs], laidTests := true, laidLooks := .later }
def PlanSolvesCardSaid : Prop := Claim7.holds Tryz.pinned (.plain (OpenSpec.ofChange planSolvesSpec)) planSolvesCard

/-- THE TIED CARD OF 'hearsaylaw09.PlanApart'. -/
def planApartCard : Claim7 := { stood := { row := planApartRow, standIns := [], harness := (true, "f1f417ffa55ac0498e2adab01b29d37787fb90a20e4f4696b6e7156f1e25e397"), looks := false }, kinds := [], alts := [], laidByText := true, laidKinds := [.data, .data, .data, .data, .data, .data, .funcs], laidTests := true, laidLooks := .later }
def PlanApartCardSaid : Prop := Claim7.holds Tryz.pinned (.plain (OpenSpec.ofChange planApartSpec)) planApartCard

/-- THE SECOND FORM's CARD OF 'hearsaylaw09.PlanMakes'. -/
def planMakesUptoCard : Claim7 := { stood := { row := planMakesUptoRow, standIns := [], harness := (true, "f1f417ffa55ac0498e2adab01b29d37787fb90a20e4f4696b6e7156f1e25e397"), looks := false }, kinds := [], alts := [], laidByText := true, laidKinds := [.data, .data, .data, .data, .data, .data, .funcs], laidTests := true, laidLooks := .later }
def PlanMakesUptoCardSaid : Prop := Claim7.holds Tryz.pinned (.plain (OpenSpec.upto planMakesSpec)) planMakesUptoCard

/-- THE SECOND FORM's CARD OF 'hearsaylaw09.PlanSolves'. -/
def planSolvesUptoCard : Claim7 := { stood := { row := planSolvesUptoRow, standIns := [], harness := (true, "f1f417ffa55ac0498e2adab01b29d37787fb90a20e4f4696b6e7156f1e25e397"), looks := false }, kinds := [], alts := [], laidByText := true, laidKinds := [.data, .data, .data, .data, .data, .data, .funcs], laidTests := true, laidLooks := .later }
def PlanSolvesUptoCardSaid : Prop := Claim7.holds Tryz.pinned (.plain (OpenSpec.upto planSolvesSpec)) planSolvesUptoCard

/-- THE SECOND FORM's CARD OF 'hearsaylaw09.PlanApart'. -/
def planApartUptoCard : Claim7 := { stood := { row := planApartUptoRow, standIns := [], harness := (true, "f1f417ffa55ac0498e2adab01b29d37787fb90a20e4f4696b6e7156f1e25e397"), looks := false }, kinds := [], alts := [], laidByText := true, laidKinds := [.data, .data, .data, .data, .data, .data, .funcs], laidTests := true, laidLooks := .later }
def PlanApartUptoCardSaid : Prop := Claim7.holds Tryz.pinned (.plain (OpenSpec.upto planApartSpec)) planApartUptoCard
end Rows
end Go.Proofs.YtdgigbopibdflaaGreatDoor
