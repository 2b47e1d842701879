/-
  DERIVED. GIVEN WITH THE SEED: THE CARDS: each row of YtgebaodagaecmaaGreatDoorRows.lean that lists a variable, with what it lists TIED to the program's text (the seventh form; the later family's looks); each row that meets fmt, with fmt's text TOLD by the authors' own Lean function (tested against real Go, not proved from fmt's source: count such statements apart). THE CARD IS WHAT COUNTS. Prove the row's statement (the work); the ties are given (YtgebaodagaecmaaGreatDoorTie.lean); close each card by the builder's one call (the guide's Derived/Test/ToyasCard.lean, 'card_holds'). Laid BY PROGRAM, IN A SANDBOX (cutbox-door.mjs). By AI agents, Wed Nov 11 2026. No macro, syntax, notation, axiom, sorry.
-/
import Derived.Test.YtgebaodagaecmaaGreatDoorRows
import GoSem.ClaimSeven
namespace Go.Proofs.YtgebaodagaecmaaGreatDoor
namespace Rows

/-- THE TIED CARD OF 'hearsaylaw09.PlanParts'. -/
def planPartsCard : Claim7 := { stood := { row := planPartsRow, standIns := [], harness := (true, "c652984d8df5aff975c8ecf916e516e855850b99ad94997cd64351e69fe8c7ba"), looks := false }, kinds := [], alts := [], laidByText := true, laidKinds := [.data, .data, .data, .data, .funcs], laidTests := true, laidLooks := .later }
def PlanPartsCardSaid : Prop := Claim7.holds Tryz.pinned (.plain (OpenSpec.ofChange planPartsSpec)) planPartsCard

/-- THE TIED CARD OF 'hearsaylaw09.PlanMore'. -/
def planMoreCard : Claim7 := { stood := { row := planMoreRow, standIns := [], harness := (true, "c652984d8df5aff975c8ecf916e516e855850b99ad94997cd64351e69fe8c7ba"), looks := false }, kinds := [], alts := [], laidByText := true, laidKinds := [.data, .data, .data, .data, .funcs], laidTests := true, laidLooks := .later }
def PlanMoreCardSaid : Prop := Claim7.holds Tryz.pinned (.plain (OpenSpec.ofChange planMoreSpec)) planMoreCard

/-- THE TIED CARD OF 'hearsaylaw09.PlanFinds'. -/
def planFindsCard : Claim7 := { stood := { row := planFindsRow, standIns := [], harness := (true, "c652984d8df5aff975c8ecf916e516e855850b99ad94997cd64351e69fe8c7ba"), looks := false }, kinds := [], alts := [], laidByText := true, laidKinds := [.data, .data, .data, .data, .funcs], laidTests := true, laidLooks := .later }
def PlanFindsCardSaid : Prop := Claim7.holds Tryz.pinned (.plain (OpenSpec.ofChange planFindsSpec)) planFindsCard

/-- THE TIED CARD OF 'hearsaylaw09.PlanMeans'. -/
def planMeansCard : Claim7 := { stood := { row := planMeansRow, standIns := [], harness := (true, "c652984d8df5aff975c8ecf916e516e855850b99ad94997cd64351e69fe8c7ba"), looks := false }, kinds := [], alts := [], laidByText := true, laidKinds := [.data, .data, .data, .data, .funcs], laidTests := true, laidLooks := .later }
def PlanMeansCardSaid : Prop := Claim7.holds Tryz.pinned (.plain (OpenSpec.ofChange planMeansSpec)) planMeansCard

/-- THE SECOND FORM's CARD OF 'hearsaylaw09.PlanParts'. -/
def planPartsUptoCard : Claim7 := { stood := { row := planPartsUptoRow, standIns := [], harness := (true, "c652984d8df5aff975c8ecf916e516e855850b99ad94997cd64351e69fe8c7ba"), looks := false }, kinds := [], alts := [], laidByText := true, laidKinds := [.data, .data, .data, .data, .funcs], laidTests := true, laidLooks := .later }
def PlanPartsUptoCardSaid : Prop := Claim7.holds Tryz.pinned (.plain (OpenSpec.upto planPartsSpec)) planPartsUptoCard

/-- THE SECOND FORM's CARD OF 'hearsaylaw09.PlanMore'. -/
def planMoreUptoCard : Claim7 := { stood := { row := planMoreUptoRow, standIns := [], harness := (true, "c652984d8df5aff975c8ecf916e516e855850b99ad94997cd64351e69fe8c7ba"), looks := false }, kinds := [], alts := [], laidByText := true, laidKinds := [.data, .data, .data, .data, .funcs], laidTests := true, laidLooks := .later }
def PlanMoreUptoCardSaid : Prop := Claim7.holds Tryz.pinned (.plain (OpenSpec.upto planMoreSpec)) planMoreUptoCard

/-- THE SECOND FORM's CARD OF 'hearsaylaw09.PlanFinds'. -/
def planFindsUptoCard : Claim7 := { stood := { row := planFindsUptoRow, standIns := [], harness := (true, "c652984d8df5aff975c8ecf916e516e855850b99ad94997cd64351e69fe8c7ba"), looks := false }, kinds := [], alts := [], laidByText := true, laidKinds := [.data, .data, .data, .data, .funcs], laidTests := true, laidLooks := .later }
def PlanFindsUptoCardSaid : Prop := Claim7.holds Tryz.pinned (.plain (OpenSpec.upto planFindsSpec)) planFindsUptoCard

/-- THE SECOND FORM's CARD OF 'hearsaylaw09.PlanMeans'. -/
def planMeansUptoCard : Claim7 := { stood := { row := planMeansUptoRow, standIns := [], harness := (true, "c652984d8df5aff975c8ecf916e516e855850b99ad94997cd64351e69fe8c7ba"), looks := false }, kinds := [], alts := [], laidByText := true, laidKinds := [.data, .data, .data, .data, .funcs], laidTests := true, laidLooks := .later }
def PlanMeansUptoCardSaid : Prop := Claim7.holds Tryz.pinned (.plain (OpenSpec.upto planMeansSpec)) planMeansUptoCard
end Rows
end Go.Proofs.YtgebaodagaecmaaGreatDoor
