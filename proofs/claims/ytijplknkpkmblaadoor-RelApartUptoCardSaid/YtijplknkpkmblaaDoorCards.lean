/-
  DERIVED. GIVEN WITH THE SEED: THE CARDS: each row of YtijplknkpkmblaaDoorRows.lean that lists a variable, with what it lists TIED to the program's text (the seventh form; the later family's looks); each row that meets fmt, with fmt's text TOLD by the authors' own Lean function (tested against real Go, not proved from fmt's source: count such statements apart). THE CARD IS WHAT COUNTS. Prove the row's statement (the work); the ties are given (YtijplknkpkmblaaDoorTie.lean); close each card by the builder's one call (the guide's Derived/Test/ToyasCard.lean, 'card_holds'). Laid BY PROGRAM, IN A SANDBOX (cutbox-door.mjs). By AI agents, Wed Nov 11 2026. No macro, syntax, notation, axiom, sorry.
-/
import Derived.Test.YtijplknkpkmblaaDoorRows
import GoSem.ClaimSeven
namespace Go.Proofs.YtijplknkpkmblaaDoor
namespace Rows

/-- THE TIED CARD OF 'hearsaylaw07.RelSifts'. -/
def relSiftsCard : Claim7 := { stood := { row := relSiftsRow, standIns := [], harness := (true, "90fdf50cf78662f263cd280d238e870ac55b9d9be6eae8c336fff0619ffd667b"), looks := false }, kinds := [], alts := [], laidByText := true, laidKinds := [.data, .data, .data], laidTests := true, laidLooks := .later }
def RelSiftsCardSaid : Prop := Claim7.holds Tryd.pinned (.plain (OpenSpec.ofChange relSiftsSpec)) relSiftsCard

/-- THE TIED CARD OF 'hearsaylaw07.RelOrder'. -/
def relOrderCard : Claim7 := { stood := { row := relOrderRow, standIns := [], harness := (true, "90fdf50cf78662f263cd280d238e870ac55b9d9be6eae8c336fff0619ffd667b"), looks := false }, kinds := [], alts := [], laidByText := true, laidKinds := [.data, .data, .data], laidTests := true, laidLooks := .later }
def RelOrderCardSaid : Prop := Claim7.holds Tryd.pinned (.plain (OpenSpec.ofChange relOrderSpec)) relOrderCard

/-- THE TIED CARD OF 'hearsaylaw07.RelApart'. -/
def relApartCard : Claim7 := { stood := { row := relApartRow, standIns := [], harness := (true, "90fdf50cf78662f263cd280d238e870ac55b9d9be6eae8c336fff0619ffd667b"), looks := false }, kinds := [], alts := [], laidByText := true, laidKinds := [.data, .data, .data], laidTests := true, laidLooks := .later }
def RelApartCardSaid : Prop := Claim7.holds Tryd.pinned (.plain (OpenSpec.ofChange relApartSpec)) relApartCard

/-- THE TIED CARD OF 'hearsaylaw07.RelParts'. -/
def relPartsCard : Claim7 := { stood := { row := relPartsRow, standIns := [], harness := (true, "90fdf50cf78662f263cd280d238e870ac55b9d9be6eae8c336fff0619ffd667b"), looks := false }, kinds := [], alts := [], laidByText := true, laidKinds := [.data, .data, .data], laidTests := true, laidLooks := .later }
def RelPartsCardSaid : Prop := Claim7.holds Tryd.pinned (.plain (OpenSpec.ofChange relPartsSpec)) relPartsCard

/-- THE TIED CARD OF 'hearsaylaw07.RelAmid'. -/
def relAmidCard : Claim7 := { stood := { row := relAmidRow, standIns := [], harness := (true, "90fdf50cf78662f263cd280d238e870ac55b9d9be6eae8c336fff0619ffd667b"), looks := false }, kinds := [], alts := [], laidByText := true, laidKinds := [.data, .data, .data], laidTests := true, laidLooks := .later }
def RelAmidCardSaid : Prop := Claim7.holds Tryd.pinned (.plain (OpenSpec.ofChange relAmidSpec)) relAmidCard

/-- THE SECOND FORM's CARD OF 'hearsaylaw07.RelSifts'. -/
def relSiftsUptoCard : Claim7 := { stood := { row := relSiftsUptoRow, standIns := [], harness := (true, "90fdf50cf78662f263cd280d238e870ac55b9d9be6eae8c336fff0619ffd667b"), looks := false }, kinds := [], alts := [], laidByText := true, laidKinds := [.data, .data, .data], laidTests := true, laidLooks := .later }
def RelSiftsUptoCardSaid : Prop := Claim7.holds Tryd.pinned (.plain (OpenSpec.upto relSiftsSpec)) relSiftsUptoCard

/-- THE SECOND FORM's CARD OF 'hearsaylaw07.RelOrder'. -/
def relOrderUptoCard : Claim7 := { stood := { row := relOrderUptoRow, standIns := [], harness := (true, "90fdf50cf78662f263cd280d238e870ac55b9d9be6eae8c336fff0619ffd667b"), looks := false }, kinds := [], alts := [], laidByText := true, laidKinds := [.data, .data, .data], laidTests := true, laidLooks := .later }
def RelOrderUptoCardSaid : Prop := Claim7.holds Tryd.pinned (.plain (OpenSpec.upto relOrderSpec)) relOrderUptoCard

/-- THE SECOND FORM's CARD OF 'hearsaylaw07.RelApart'. -/
def relApartUptoCard : Claim7 := { stood := { row := relApartUptoRow, standIns := [], harness := (true, "90fdf50cf78662f263cd280d238e870ac55b9d9be6eae8c336fff0619ffd667b"), looks := false }, kinds := [], alts := [], laidByText := true, laidKinds := [.data, .data, .data], laidTests := true, laidLooks := .later }
def RelApartUptoCardSaid : Prop := Claim7.holds Tryd.pinned (.plain (OpenSpec.upto relApartSpec)) relApartUptoCard

/-- THE SECOND FORM's CARD OF 'hearsaylaw07.RelParts'. -/
def relPartsUptoCard : Claim7 := { stood := { row := relPartsUptoRow, standIns := [], harness := (true, "90fdf50cf78662f263cd280d238e870ac55b9d9be6eae8c336fff0619ffd667b"), looks := false }, kinds := [], alts := [], laidByText := true, laidKinds := [.data, .data, .data], laidTests := true, laidLooks := .later }
def RelPartsUptoCardSaid : Prop := Claim7.holds Tryd.pinned (.plain (OpenSpec.upto relPartsSpec)) relPartsUptoCard

/-- THE SECOND FORM's CARD OF 'hearsaylaw07.RelAmid'. -/
def relAmidUptoCard : Claim7 := { stood := { row := relAmidUptoRow, standIns := [], harness := (true, "90fdf50cf78662f263cd280d238e870ac55b9d9be6eae8c336fff0619ffd667b"), looks := false }, kinds := [], alts := [], laidByText := true, laidKinds := [.data, .data, .data], laidTests := true, laidLooks := .later }
def RelAmidUptoCardSaid : Prop := Claim7.holds Tryd.pinned (.plain (OpenSpec.upto relAmidSpec)) relAmidUptoCard
end Rows
end Go.Proofs.YtijplknkpkmblaaDoor
