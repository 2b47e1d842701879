/-
  DERIVED. GIVEN WITH THE SEED: THE CARDS: each row of YtijplknkpkmblaaGreatDoorRows.lean that lists a variable, with what it lists TIED to the program's text (the seventh form; the later family's looks); each row that meets fmt, with fmt's text TOLD by the authors' own Lean function (tested against real Go, not proved from fmt's source: count such statements apart). THE CARD IS WHAT COUNTS. Prove the row's statement (the work); the ties are given (YtijplknkpkmblaaGreatDoorTie.lean); close each card by the builder's one call (the guide's Derived/Test/ToyasCard.lean, 'card_holds'). Laid BY PROGRAM, IN A SANDBOX (cutbox-door.mjs). By AI agents, Wed Nov 11 2026. No macro, syntax, notation, axiom, sorry.
-/
import Derived.Test.YtijplknkpkmblaaGreatDoorRows
import GoSem.ClaimSeven
namespace Go.Proofs.YtijplknkpkmblaaGreatDoor
namespace Rows

/-- THE TIED CARD OF 'hearsaylaw07.RelAdds'. -/
def relAddsCard : Claim7 := { stood := { row := relAddsRow, standIns := [], harness := (true, "bf9033d74f6b3adc1761fa60d75eda1ab81efbd4ffb24721885c70625018b510"), looks := false }, kinds := [], alts := [], laidByText := true, laidKinds := [.data, .data, .data], laidTests := true, laidLooks := .later }
def RelAddsCardSaid : Prop := Claim7.holds Tryz.pinned (.plain (OpenSpec.ofChange relAddsSpec)) relAddsCard

/-- THE TIED CARD OF 'hearsaylaw07.RelFinds'. -/
def relFindsCard : Claim7 := { stood := { row := relFindsRow, standIns := [], harness := (true, "bf9033d74f6b3adc1761fa60d75eda1ab81efbd4ffb24721885c70625018b510"), looks := false }, kinds := [], alts := [], laidByText := true, laidKinds := [.data, .data, .data], laidTests := true, laidLooks := .later }
def RelFindsCardSaid : Prop := Claim7.holds Tryz.pinned (.plain (OpenSpec.ofChange relFindsSpec)) relFindsCard

/-- THE TIED CARD OF 'hearsaylaw07.RelAll'. -/
def relAllCard : Claim7 := { stood := { row := relAllRow, standIns := [], harness := (true, "bf9033d74f6b3adc1761fa60d75eda1ab81efbd4ffb24721885c70625018b510"), looks := false }, kinds := [], alts := [], laidByText := true, laidKinds := [.data, .data, .data], laidTests := true, laidLooks := .later }
def RelAllCardSaid : Prop := Claim7.holds Tryz.pinned (.plain (OpenSpec.ofChange relAllSpec)) relAllCard

/-- THE SECOND FORM's CARD OF 'hearsaylaw07.RelAdds'. -/
def relAddsUptoCard : Claim7 := { stood := { row := relAddsUptoRow, standIns := [], harness := (true, "bf9033d74f6b3adc1761fa60d75eda1ab81efbd4ffb24721885c70625018b510"), looks := false }, kinds := [], alts := [], laidByText := true, laidKinds := [.data, .data, .data], laidTests := true, laidLooks := .later }
def RelAddsUptoCardSaid : Prop := Claim7.holds Tryz.pinned (.plain (OpenSpec.upto relAddsSpec)) relAddsUptoCard

/-- THE SECOND FORM's CARD OF 'hearsaylaw07.RelFinds'. -/
def relFindsUptoCard : Claim7 := { stood := { row := relFindsUptoRow, standIns := [], harness := (true, "bf9033d74f6b3adc1761fa60d75eda1ab81efbd4ffb24721885c70625018b510"), looks := false }, kinds := [], alts := [], laidByText := true, laidKinds := [.data, .data, .data], laidTests := true, laidLooks := .later }
def RelFindsUptoCardSaid : Prop := Claim7.holds Tryz.pinned (.plain (OpenSpec.upto relFindsSpec)) relFindsUptoCard

/-- THE SECOND FORM's CARD OF 'hearsaylaw07.RelAll'. -/
def relAllUptoCard : Claim7 := { stood := { row := relAllUptoRow, standIns := [], harness := (true, "bf9033d74f6b3adc1761fa60d75eda1ab81efbd4ffb24721885c70625018b510"), looks := false }, kinds := [], alts := [], laidByText := true, laidKinds := [.data, .data, .data], laidTests := true, laidLooks := .later }
def RelAllUptoCardSaid : Prop := Claim7.holds Tryz.pinned (.plain (OpenSpec.upto relAllSpec)) relAllUptoCard
end Rows
end Go.Proofs.YtijplknkpkmblaaGreatDoor
