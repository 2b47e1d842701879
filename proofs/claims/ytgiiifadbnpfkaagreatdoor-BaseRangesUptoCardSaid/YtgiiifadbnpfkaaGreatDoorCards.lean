/-
  DERIVED. GIVEN WITH THE SEED: THE CARDS: each row of YtgiiifadbnpfkaaGreatDoorRows.lean that lists a variable, with what it lists TIED to the program's text (the seventh form; the later family's looks); each row that meets fmt, with fmt's text TOLD by the authors' own Lean function (tested against real Go, not proved from fmt's source: count such statements apart). THE CARD IS WHAT COUNTS. Prove the row's statement (the work); the ties are given (YtgiiifadbnpfkaaGreatDoorTie.lean); close each card by the builder's one call (the guide's Derived/Test/ToyasCard.lean, 'card_holds'). Laid BY PROGRAM, IN A SANDBOX (cutbox-door.mjs). By AI agents, Wed Nov 11 2026. No macro, syntax, notation, axiom, sorry.
-/
import Derived.Test.YtgiiifadbnpfkaaGreatDoorRows
import GoSem.ClaimSeven
namespace Go.Proofs.YtgiiifadbnpfkaaGreatDoor
namespace Rows

/-- THE TIED CARD OF 'hearsaylaw08.BaseParts'. -/
def basePartsCard : Claim7 := { stood := { row := basePartsRow, standIns := [], harness := (true, "9defd96e922e1df65d50cc37aed8e8e54dfa51bf1e5887a6aa41dfeeff429bf2"), looks := false }, kinds := [], alts := [], laidByText := true, laidKinds := [.data, .data, .data, .data], laidTests := true, laidLooks := .later }
def BasePartsCardSaid : Prop := Claim7.holds Tryz.pinned (.plain (OpenSpec.ofChange basePartsSpec)) basePartsCard

/-- THE TIED CARD OF 'hearsaylaw08.BaseFinds'. -/
def baseFindsCard : Claim7 := { stood := { row := baseFindsRow, standIns := [], harness := (true, "9defd96e922e1df65d50cc37aed8e8e54dfa51bf1e5887a6aa41dfeeff429bf2"), looks := false }, kinds := [], alts := [], laidByText := true, laidKinds := [.data, .data, .data, .data], laidTests := true, laidLooks := .later }
def BaseFindsCardSaid : Prop := Claim7.holds Tryz.pinned (.plain (OpenSpec.ofChange baseFindsSpec)) baseFindsCard

/-- THE TIED CARD OF 'hearsaylaw08.BaseRanges'. -/
def baseRangesCard : Claim7 := { stood := { row := baseRangesRow, standIns := [], harness := (true, "9defd96e922e1df65d50cc37aed8e8e54dfa51bf1e5887a6aa41dfeeff429bf2"), looks := false }, kinds := [], alts := [], laidByText := true, laidKinds := [.data, .data, .data, .data, .data], laidTests := true, laidLooks := .later }
def BaseRangesCardSaid : Prop := Claim7.holds Tryz.pinned (.plain (OpenSpec.ofChange baseRangesSpec)) baseRangesCard

/-- THE TIED CARD OF 'hearsaylaw08.BaseOwn'. -/
def baseOwnCard : Claim7 := { stood := { row := baseOwnRow, standIns := [], harness := (true, "9defd96e922e1df65d50cc37aed8e8e54dfa51bf1e5887a6aa41dfeeff429bf2"), looks := false }, kinds := [], alts := [], laidByText := true, laidKinds := [.data, .data, .data, .data, .data], laidTests := true, laidLooks := .later }
def BaseOwnCardSaid : Prop := Claim7.holds Tryz.pinned (.plain (OpenSpec.ofChange baseOwnSpec)) baseOwnCard

/-- THE TIED CARD OF 'hearsaylaw08.BaseSets'. -/
def baseSetsCard : Claim7 := { stood := { row := baseSetsRow, standIns := [], harness := (true, "9defd96e922e1df65d50cc37aed8e8e54dfa51bf1e5887a6aa41dfeeff429bf2"), looks := false }, kinds := [], alts := [], laidByText := true, laidKinds := [.data, .data, .data, .data], laidTests := true, laidLooks := .later }
def BaseSetsCardSaid : Prop := Claim7.holds Tryz.pinned (.plain (OpenSpec.ofChange baseSetsSpec)) baseSetsCard

/-- THE TIED CARD OF 'hearsaylaw08.BaseAdds'. -/
def baseAddsCard : Claim7 := { stood := { row := baseAddsRow, standIns := [], harness := (true, "9defd96e922e1df65d50cc37aed8e8e54dfa51bf1e5887a6aa41dfeeff429bf2"), looks := false }, kinds := [], alts := [], laidByText := true, laidKinds := [.data, .data, .data, .data, .data], laidTests := true, laidLooks := .later }
def BaseAddsCardSaid : Prop := Claim7.holds Tryz.pinned (.plain (OpenSpec.ofChange baseAddsSpec)) baseAddsCard

/-- THE TIED CARD OF 'hearsaylaw08.BaseLooks'. -/
def baseLooksCard : Claim7 := { stood := { row := baseLooksRow, standIns := [], harness := (true, "9defd96e922e1df65d50cc37aed8e8e54dfa51bf1e5887a6aa41dfeeff429bf2"), looks := false }, kinds := [], alts := [], laidByText := true, laidKinds := [.data, .data, .data, .data, .data], laidTests := true, laidLooks := .later }
def BaseLooksCardSaid : Prop := Claim7.holds Tryz.pinned (.plain (OpenSpec.ofChange baseLooksSpec)) baseLooksCard

/-- THE TIED CARD OF 'hearsaylaw08.BaseAll'. -/
def baseAllCard : Claim7 := { stood := { row := baseAllRow, standIns := [], harness := (true, "9defd96e922e1df65d50cc37aed8e8e54dfa51bf1e5887a6aa41dfeeff429bf2"), looks := false }, kinds := [], alts := [], laidByText := true, laidKinds := [.data, .data, .data, .data, .data], laidTests := true, laidLooks := .later }
def BaseAllCardSaid : Prop := Claim7.holds Tryz.pinned (.plain (OpenSpec.ofChange baseAllSpec)) baseAllCard

/-- THE SECOND FORM's CARD OF 'hearsaylaw08.BaseParts'. -/
def basePartsUptoCard : Claim7 := { stood := { row := basePartsUptoRow, standIns := [], harness := (true, "9defd96e922e1df65d50cc37aed8e8e54dfa51bf1e5887a6aa41dfeeff429bf2"), looks := false }, kinds := [], alts := [], laidByText := true, laidKinds := [.data, .data, .data, .data], laidTests := true, laidLooks := .later }
def BasePartsUptoCardSaid : Prop := Claim7.holds Tryz.pinned (.plain (OpenSpec.upto basePartsSpec)) basePartsUptoCard

/-- THE SECOND FORM's CARD OF 'hearsaylaw08.BaseFinds'. -/
def baseFindsUptoCard : Claim7 := { stood := { row := baseFindsUptoRow, standIns := [], harness := (true, "9defd96e922e1df65d50cc37aed8e8e54dfa51bf1e5887a6aa41dfeeff429bf2"), looks := false }, kinds := [], alts := [], laidByText := true, laidKinds := [.data, .data, .data, .data], laidTests := true, laidLooks := .later }
def BaseFindsUptoCardSaid : Prop := Claim7.holds Tryz.pinned (.plain (OpenSpec.upto baseFindsSpec)) baseFindsUptoCard

/-- THE SECOND FORM's CARD OF 'hearsaylaw08.BaseRanges'. -/
def baseRangesUptoCard : Claim7 := { stood := { row := baseRangesUptoRow, standIns := [], harness := (true, "9defd96e922e1df65d50cc37aed8e8e54dfa51bf1e5887a6aa41dfeeff429bf2"), looks := false }, kinds := [], alts := [], laidByText := true, laidKinds := [.data, .data, .data, .data, .data], laidTests := true, laidLooks := .later }
def BaseRangesUptoCardSaid : Prop := Claim7.holds Tryz.pinned (.plain (OpenSpec.upto baseRangesSpec)) baseRangesUptoCard

/-- THE SECOND FORM's CARD OF 'hearsaylaw08.BaseOwn'. -/
def baseOwnUptoCard : Claim7 := { stood := { row := baseOwnUptoRow, standIns := [], harness := (true, "9defd96e922e1df65d50cc37aed8e8e54dfa51bf1e5887a6aa41dfeeff429bf2"), looks := false }, kinds := [], alts := [], laidByText := true, laidKinds := [.data, .data, .data, .data, .data], laidTests := true, laidLooks := .later }
def BaseOwnUptoCardSaid : Prop := Claim7.holds Tryz.pinned (.plain (OpenSpec.upto baseOwnSpec)) baseOwnUptoCard

/-- THE SECOND FORM's CARD OF 'hearsaylaw08.BaseSets'. -/
def baseSetsUptoCard : Claim7 := { stood := { row := baseSetsUptoRow, standIns := [], harness := (true, "9defd96e922e1df65d50cc37aed8e8e54dfa51bf1e5887a6aa41dfeeff429bf2"), looks := false }, kinds := [], alts := [], laidByText := true, laidKinds := [.data, .data, .data, .data], laidTests := true, laidLooks := .later }
def BaseSetsUptoCardSaid : Prop := Claim7.holds Tryz.pinned (.plain (OpenSpec.upto baseSetsSpec)) baseSetsUptoCard

/-- THE SECOND FORM's CARD OF 'hearsaylaw08.BaseAdds'. -/
def baseAddsUptoCard : Claim7 := { stood := { row := baseAddsUptoRow, standIns := [], harness := (true, "9defd96e922e1df65d50cc37aed8e8e54dfa51bf1e5887a6aa41dfeeff429bf2"), looks := false }, kinds := [], alts := [], laidByText := true, laidKinds := [.data, .data, .data, .data, .data], laidTests := true, laidLooks := .later }
def BaseAddsUptoCardSaid : Prop := Claim7.holds Tryz.pinned (.plain (OpenSpec.upto baseAddsSpec)) baseAddsUptoCard

/-- THE SECOND FORM's CARD OF 'hearsaylaw08.BaseLooks'. -/
def baseLooksUptoCard : Claim7 := { stood := { row := baseLooksUptoRow, standIns := [], harness := (true, "9defd96e922e1df65d50cc37aed8e8e54dfa51bf1e5887a6aa41dfeeff429bf2"), looks := false }, kinds := [], alts := [], laidByText := true, laidKinds := [.data, .data, .data, .data, .data], laidTests := true, laidLooks := .later }
def BaseLooksUptoCardSaid : Prop := Claim7.holds Tryz.pinned (.plain (OpenSpec.upto baseLooksSpec)) baseLooksUptoCard

/-- THE SECOND FORM's CARD OF 'hearsaylaw08.BaseAll'. -/
def baseAllUptoCard : Claim7 := { stood := { row := baseAllUptoRow, standIns := [], harness := (true, "9defd96e922e1df65d50cc37aed8e8e54dfa51bf1e5887a6aa41dfeeff429bf2"), looks := false }, kinds := [], alts := [], laidByText := true, laidKinds := [.data, .data, .data, .data, .data], laidTests := true, laidLooks := .later }
def BaseAllUptoCardSaid : Prop := Claim7.holds Tryz.pinned (.plain (OpenSpec.upto baseAllSpec)) baseAllUptoCard
end Rows
end Go.Proofs.YtgiiifadbnpfkaaGreatDoor
