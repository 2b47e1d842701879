/-
  DERIVED. GIVEN WITH THE SEED: THE CARDS: each row of YtplebagdajdcnaaDoorRows.lean that lists a variable, with what it lists TIED to the program's text (the seventh form; the later family's looks); each row that meets fmt, with fmt's text TOLD by the authors' own Lean function (tested against real Go, not proved from fmt's source: count such statements apart). THE CARD IS WHAT COUNTS. Prove the row's statement (the work); the ties are given (YtplebagdajdcnaaDoorTie.lean); close each card by the builder's one call (the guide's Derived/Test/ToyasCard.lean, 'card_holds'). Laid BY PROGRAM, IN A SANDBOX (cutbox-door.mjs). By AI agents, Wed Nov 11 2026. No macro, syntax, notation, axiom, sorry.
-/
import Derived.Test.YtplebagdajdcnaaDoorRows
import GoSem.ClaimSeven
namespace Go.Proofs.YtplebagdajdcnaaDoor
namespace Rows

/-- THE TIED CARD OF 'hearsaylaw01.DigestSums'. -/
def digestSumsCard : Claim7 := { stood := { row := digestSumsRow, standIns := [], harness := (true, "1e40df20eaeabb810a31c3e39d09af7708ed1bb94eca4e888d004f76d2de4e8c"), looks := false }, kinds := [], alts := [], laidByText := true, laidKinds := [.data, .data, .data, .data], laidTests := true, laidLooks := .later }
def DigestSumsCardSaid : Prop := Claim7.holds Tryd.pinned (.plain (OpenSpec.ofChange digestSumsSpec)) digestSumsCard

/-- THE TIED CARD OF 'hearsaylaw01.DigestParts'. -/
def digestPartsCard : Claim7 := { stood := { row := digestPartsRow, standIns := [], harness := (true, "1e40df20eaeabb810a31c3e39d09af7708ed1bb94eca4e888d004f76d2de4e8c"), looks := false }, kinds := [], alts := [], laidByText := true, laidKinds := [.data, .data, .data, .data], laidTests := true, laidLooks := .later }
def DigestPartsCardSaid : Prop := Claim7.holds Tryd.pinned (.plain (OpenSpec.ofChange digestPartsSpec)) digestPartsCard

/-- THE TIED CARD OF 'hearsaylaw01.DigestMacs'. -/
def digestMacsCard : Claim7 := { stood := { row := digestMacsRow, standIns := [], harness := (true, "1e40df20eaeabb810a31c3e39d09af7708ed1bb94eca4e888d004f76d2de4e8c"), looks := false }, kinds := [], alts := [], laidByText := true, laidKinds := [.data, .data, .data, .data], laidTests := true, laidLooks := .later }
def DigestMacsCardSaid : Prop := Claim7.holds Tryd.pinned (.plain (OpenSpec.ofChange digestMacsSpec)) digestMacsCard

/-- THE TIED CARD OF 'hearsaylaw01.DigestKeyed'. -/
def digestKeyedCard : Claim7 := { stood := { row := digestKeyedRow, standIns := [], harness := (true, "1e40df20eaeabb810a31c3e39d09af7708ed1bb94eca4e888d004f76d2de4e8c"), looks := false }, kinds := [], alts := [], laidByText := true, laidKinds := [.data, .data], laidTests := true, laidLooks := .later }
def DigestKeyedCardSaid : Prop := Claim7.holds Tryd.pinned (.plain (OpenSpec.ofChange digestKeyedSpec)) digestKeyedCard

/-- THE TIED CARD OF 'hearsaylaw01.DigestBack'. -/
def digestBackCard : Claim7 := { stood := { row := digestBackRow, standIns := [], harness := (true, "1e40df20eaeabb810a31c3e39d09af7708ed1bb94eca4e888d004f76d2de4e8c"), looks := false }, kinds := [], alts := [], laidByText := true, laidKinds := [.data, .data], laidTests := true, laidLooks := .later }
def DigestBackCardSaid : Prop := Claim7.holds Tryd.pinned (.plain (OpenSpec.ofChange digestBackSpec)) digestBackCard

/-- THE TIED CARD OF 'hearsaylaw01.DigestHashers'. -/
def digestHashersCard : Claim7 := { stood := { row := digestHashersRow, standIns := [], harness := (true, "1e40df20eaeabb810a31c3e39d09af7708ed1bb94eca4e888d004f76d2de4e8c"), looks := false }, kinds := [], alts := [], laidByText := true, laidKinds := [.data, .data, .data, .data], laidTests := true, laidLooks := .later }
def DigestHashersCardSaid : Prop := Claim7.holds Tryd.pinned (.plain (OpenSpec.ofChange digestHashersSpec)) digestHashersCard

/-- THE TIED CARD OF 'hearsaylaw01.DigestStream'. -/
def digestStreamCard : Claim7 := { stood := { row := digestStreamRow, standIns := [], harness := (true, "1e40df20eaeabb810a31c3e39d09af7708ed1bb94eca4e888d004f76d2de4e8c"), looks := false }, kinds := [], alts := [], laidByText := true, laidKinds := [.data, .data], laidTests := true, laidLooks := .later }
def DigestStreamCardSaid : Prop := Claim7.holds Tryd.pinned (.plain (OpenSpec.ofChange digestStreamSpec)) digestStreamCard

/-- THE TIED CARD OF 'hearsaylaw01.DigestLaid'. -/
def digestLaidCard : Claim7 := { stood := { row := digestLaidRow, standIns := [], harness := (true, "1e40df20eaeabb810a31c3e39d09af7708ed1bb94eca4e888d004f76d2de4e8c"), looks := false }, kinds := [], alts := [], laidByText := true, laidKinds := [.data, .data], laidTests := true, laidLooks := .later }
def DigestLaidCardSaid : Prop := Claim7.holds Tryd.pinned (.plain (OpenSpec.ofChange digestLaidSpec)) digestLaidCard

/-- THE SECOND FORM's CARD OF 'hearsaylaw01.DigestSums'. -/
def digestSumsUptoCard : Claim7 := { stood := { row := digestSumsUptoRow, standIns := [], harness := (true, "1e40df20eaeabb810a31c3e39d09af7708ed1bb94eca4e888d004f76d2de4e8c"), looks := false }, kinds := [], alts := [], laidByText := true, laidKinds := [.data, .data, .data, .data], laidTests := true, laidLooks := .later }
def DigestSumsUptoCardSaid : Prop := Claim7.holds Tryd.pinned (.plain (OpenSpec.upto digestSumsSpec)) digestSumsUptoCard

/-- THE SECOND FORM's CARD OF 'hearsaylaw01.DigestParts'. -/
def digestPartsUptoCard : Claim7 := { stood := { row := digestPartsUptoRow, standIns := [], harness := (true, "1e40df20eaeabb810a31c3e39d09af7708ed1bb94eca4e888d004f76d2de4e8c"), looks := false }, kinds := [], alts := [], laidByText := true, laidKinds := [.data, .data, .data, .data], laidTests := true, laidLooks := .later }
def DigestPartsUptoCardSaid : Prop := Claim7.holds Tryd.pinned (.plain (OpenSpec.upto digestPartsSpec)) digestPartsUptoCard

/-- THE SECOND FORM's CARD OF 'hearsaylaw01.DigestMacs'. -/
def digestMacsUptoCard : Claim7 := { stood := { row := digestMacsUptoRow, standIns := [], harness := (true, "1e40df20eaeabb810a31c3e39d09af7708ed1bb94eca4e888d004f76d2de4e8c"), looks := false }, kinds := [], alts := [], laidByText := true, laidKinds := [.data, .data, .data, .data], laidTests := true, laidLooks := .later }
def DigestMacsUptoCardSaid : Prop := Claim7.holds Tryd.pinned (.plain (OpenSpec.upto digestMacsSpec)) digestMacsUptoCard

/-- THE SECOND FORM's CARD OF 'hearsaylaw01.DigestKeyed'. -/
def digestKeyedUptoCard : Claim7 := { stood := { row := digestKeyedUptoRow, standIns := [], harness := (true, "1e40df20eaeabb810a31c3e39d09af7708ed1bb94eca4e888d004f76d2de4e8c"), looks := false }, kinds := [], alts := [], laidByText := true, laidKinds := [.data, .data], laidTests := true, laidLooks := .later }
def DigestKeyedUptoCardSaid : Prop := Claim7.holds Tryd.pinned (.plain (OpenSpec.upto digestKeyedSpec)) digestKeyedUptoCard

/-- THE SECOND FORM's CARD OF 'hearsaylaw01.DigestBack'. -/
def digestBackUptoCard : Claim7 := { stood := { row := digestBackUptoRow, standIns := [], harness := (true, "1e40df20eaeabb810a31c3e39d09af7708ed1bb94eca4e888d004f76d2de4e8c"), looks := false }, kinds := [], alts := [], laidByText := true, laidKinds := [.data, .data], laidTests := true, laidLooks := .later }
def DigestBackUptoCardSaid : Prop := Claim7.holds Tryd.pinned (.plain (OpenSpec.upto digestBackSpec)) digestBackUptoCard

/-- THE SECOND FORM's CARD OF 'hearsaylaw01.DigestHashers'. -/
def digestHashersUptoCard : Claim7 := { stood := { row := digestHashersUptoRow, standIns := [], harness := (true, "1e40df20eaeabb810a31c3e39d09af7708ed1bb94eca4e888d004f76d2de4e8c"), looks := false }, kinds := [], alts := [], laidByText := true, laidKinds := [.data, .data, .data, .data], laidTests := true, laidLooks := .later }
def DigestHashersUptoCardSaid : Prop := Claim7.holds Tryd.pinned (.plain (OpenSpec.upto digestHashersSpec)) digestHashersUptoCard

/-- THE SECOND FORM's CARD OF 'hearsaylaw01.DigestStream'. -/
def digestStreamUptoCard : Claim7 := { stood := { row := digestStreamUptoRow, standIns := [], harness := (true, "1e40df20eaeabb810a31c3e39d09af7708ed1bb94eca4e888d004f76d2de4e8c"), looks := false }, kinds := [], alts := [], laidByText := true, laidKinds := [.data, .data], laidTests := true, laidLooks := .later }
def DigestStreamUptoCardSaid : Prop := Claim7.holds Tryd.pinned (.plain (OpenSpec.upto digestStreamSpec)) digestStreamUptoCard

/-- THE SECOND FORM's CARD OF 'hearsaylaw01.DigestLaid'. -/
def digestLaidUptoCard : Claim7 := { stood := { row := digestLaidUptoRow, standIns := [], harness := (true, "1e40df20eaeabb810a31c3e39d09af7708ed1bb94eca4e888d004f76d2de4e8c"), looks := false }, kinds := [], alts := [], laidByText := true, laidKinds := [.data, .data], laidTests := true, laidLooks := .later }
def DigestLaidUptoCardSaid : Prop := Claim7.holds Tryd.pinned (.plain (OpenSpec.upto digestLaidSpec)) digestLaidUptoCard
end Rows
end Go.Proofs.YtplebagdajdcnaaDoor
