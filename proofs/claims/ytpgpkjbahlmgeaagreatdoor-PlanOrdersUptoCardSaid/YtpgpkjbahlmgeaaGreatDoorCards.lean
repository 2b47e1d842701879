/-
  DERIVED. GIVEN WITH THE SEED: THE CARDS: each row of YtpgpkjbahlmgeaaGreatDoorRows.lean that lists a variable, with what it lists TIED to the program's text (the seventh form; the later family's looks); each row that meets fmt, with fmt's text TOLD by the authors' own Lean function (tested against real Go, not proved from fmt's source: count such statements apart). THE CARD IS WHAT COUNTS. Prove the row's statement (the work); the ties are given (YtpgpkjbahlmgeaaGreatDoorTie.lean); close each card by the builder's one call (the guide's Derived/Test/ToyasCard.lean, 'card_holds'). Laid BY PROGRAM, IN A SANDBOX (cutbox-door.mjs). By AI agents, Wed Nov 11 2026. No macro, syntax, notation, axiom, sorry.
-/
import Derived.Test.YtpgpkjbahlmgeaaGreatDoorRows
import GoSem.ClaimSeven
namespace Go.Proofs.YtpgpkjbahlmgeaaGreatDoor
namespace Rows

/-- THE TIED CARD OF 'hearsaylaw09.PlanOrders'. -/
def planOrdersCard : Claim7 := { stood := { row := planOrdersRow, standIns := [], harness := (true, "0f56910a0fbe441d0b4724f09efca058e0254cd511292123779ca289d0042e85"), looks := false }, kinds := [], alts := [], laidByText := true, laidKinds := [.data, .data, .data, .data, .funcs], laidTests := true, laidLooks := .later }
def PlanOrdersCardSaid : Prop := Claim7.holds Tryz.pinned (.plain (OpenSpec.ofChange planOrdersSpec)) planOrdersCard

/-- THE TIED CARD OF 'hearsaylaw09.PlanMore'. -/
def planMoreCard : Claim7 := { stood := { row := planMoreRow, standIns := [], harness := (true, "0f56910a0fbe441d0b4724f09efca058e0254cd511292123779ca289d0042e85"), looks := false }, kinds := [], alts := [], laidByText := true, laidKinds := [.data, .data, .data, .data, .funcs], laidTests := true, laidLooks := .later }
def PlanMoreCardSaid : Prop := Claim7.holds Tryz.pinned (.plain (OpenSpec.ofChange planMoreSpec)) planMoreCard

/-- THE SECOND FORM's CARD OF 'hearsaylaw09.PlanOrders'. -/
def planOrdersUptoCard : Claim7 := { stood := { row := planOrdersUptoRow, standIns := [], harness := (true, "0f56910a0fbe441d0b4724f09efca058e0254cd511292123779ca289d0042e85"), looks := false }, kinds := [], alts := [], laidByText := true, laidKinds := [.data, .data, .data, .data, .funcs], laidTests := true, laidLooks := .later }
def PlanOrdersUptoCardSaid : Prop := Claim7.holds Tryz.pinned (.plain (OpenSpec.upto planOrdersSpec)) planOrdersUptoCard

/-- THE SECOND FORM's CARD OF 'hearsaylaw09.PlanMore'. -/
def planMoreUptoCard : Claim7 := { stood := { row := planMoreUptoRow, standIns := [], harness := (true, "0f56910a0fbe441d0b4724f09efca058e0254cd511292123779ca289d0042e85"), looks := false }, kinds := [], alts := [], laidByText := true, laidKinds := [.data, .data, .data, .data, .funcs], laidTests := true, laidLooks := .later }
def PlanMoreUptoCardSaid : Prop := Claim7.holds Tryz.pinned (.plain (OpenSpec.upto planMoreSpec)) planMoreUptoCard
end Rows
end Go.Proofs.YtpgpkjbahlmgeaaGreatDoor
