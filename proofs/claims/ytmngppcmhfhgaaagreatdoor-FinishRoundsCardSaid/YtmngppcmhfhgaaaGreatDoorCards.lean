/-
  DERIVED. GIVEN WITH THE SEED: THE CARDS: each row of YtmngppcmhfhgaaaGreatDoorRows.lean that lists a variable, with what it lists TIED to the program's text (the seventh form; the later family's looks); each row that meets fmt, with fmt's text TOLD by the authors' own Lean function (tested against real Go, not proved from fmt's source: count such statements apart). THE CARD IS WHAT COUNTS. Prove the row's statement (the work); the ties are given (YtmngppcmhfhgaaaGreatDoorTie.lean); close each card by the builder's one call (the guide's Derived/Test/ToyasCard.lean, 'card_holds'). Laid BY PROGRAM, IN A SANDBOX (cutbox-door.mjs). By AI agents, Wed Nov 11 2026. No macro, syntax, notation, axiom, sorry.
-/
import Derived.Test.YtmngppcmhfhgaaaGreatDoorRows
import GoSem.ClaimSeven
namespace Go.Proofs.YtmngppcmhfhgaaaGreatDoor
namespace Rows

/-- THE TIED CARD OF 'stadionlaw05.FinishTexts'. -/
def finishTextsCard : Claim7 := { stood := { row := finishTextsRow, standIns := [], harness := (true, "ac04959ea3d54f453b0abe73a37105ab80d782ef75ffe6435fd053cfb610446a"), looks := true }, kinds := [], alts := [], laidByText := true, laidKinds := [.data, .data, .data, .data, .sentinel, .sentinel, .pinned], laidTests := true, laidLooks := .later }
def FinishTextsCardSaid : Prop := Claim7.holds Tryz.pinned (.plain (OpenSpec.ofChange finishTextsSpec)) finishTextsCard

/-- THE TIED CARD OF 'stadionlaw05.FinishReadings'. -/
def finishReadingsCard : Claim7 := { stood := { row := finishReadingsRow, standIns := [], harness := (true, "ac04959ea3d54f453b0abe73a37105ab80d782ef75ffe6435fd053cfb610446a"), looks := true }, kinds := [], alts := [], laidByText := true, laidKinds := [.data, .data, .data, .data, .sentinel, .sentinel, .pinned], laidTests := true, laidLooks := .later }
def FinishReadingsCardSaid : Prop := Claim7.holds Tryz.pinned (.plain (OpenSpec.ofChange finishReadingsSpec)) finishReadingsCard

/-- THE TIED CARD OF 'stadionlaw05.FinishOfficials'. -/
def finishOfficialsCard : Claim7 := { stood := { row := finishOfficialsRow, standIns := [], harness := (true, "ac04959ea3d54f453b0abe73a37105ab80d782ef75ffe6435fd053cfb610446a"), looks := true }, kinds := [], alts := [], laidByText := true, laidKinds := [.data, .data, .data, .data, .sentinel, .sentinel, .pinned], laidTests := true, laidLooks := .later }
def FinishOfficialsCardSaid : Prop := Claim7.holds Tryz.pinned (.plain (OpenSpec.ofChange finishOfficialsSpec)) finishOfficialsCard

/-- THE TIED CARD OF 'stadionlaw05.FinishResults'. -/
def finishResultsCard : Claim7 := { stood := { row := finishResultsRow, standIns := [], harness := (true, "ac04959ea3d54f453b0abe73a37105ab80d782ef75ffe6435fd053cfb610446a"), looks := true }, kinds := [], alts := [], laidByText := true, laidKinds := [.data, .data, .data, .data, .sentinel, .sentinel, .pinned], laidTests := true, laidLooks := .later }
def FinishResultsCardSaid : Prop := Claim7.holds Tryz.pinned (.plain (OpenSpec.ofChange finishResultsSpec)) finishResultsCard

/-- THE TIED CARD OF 'stadionlaw05.FinishStarts'. -/
def finishStartsCard : Claim7 := { stood := { row := finishStartsRow, standIns := [], harness := (true, "ac04959ea3d54f453b0abe73a37105ab80d782ef75ffe6435fd053cfb610446a"), looks := true }, kinds := [], alts := [], laidByText := true, laidKinds := [.data, .data, .data, .data, .sentinel, .sentinel, .pinned], laidTests := true, laidLooks := .later }
def FinishStartsCardSaid : Prop := Claim7.holds Tryz.pinned (.plain (OpenSpec.ofChange finishStartsSpec)) finishStartsCard

/-- THE TIED CARD OF 'stadionlaw05.FinishRounds'. -/
def finishRoundsCard : Claim7 := { stood := { row := finishRoundsRow, standIns := [], harness := (true, "ac04959ea3d54f453b0abe73a37105ab80d782ef75ffe6435fd053cfb610446a"), looks := true }, kinds := [], alts := [], laidByText := true, laidKinds := [.data, .data, .data, .data, .sentinel, .sentinel, .pinned], laidTests := true, laidLooks := .later }
def FinishRoundsCardSaid : Prop := Claim7.holds Tryz.pinned (.plain (OpenSpec.ofChange finishRoundsSpec)) finishRoundsCard

/-- THE TIED CARD OF 'stadionlaw05.FinishTies'. -/
def finishTiesCard : Claim7 := { stood := { row := finishTiesRow, standIns := [], harness := (true, "ac04959ea3d54f453b0abe73a37105ab80d782ef75ffe6435fd053cfb610446a"), looks := true }, kinds := [], alts := [], laidByText := true, laidKinds := [.data, .data, .data, .data, .sentinel, .sentinel, .pinned], laidTests := true, laidLooks := .later }
def FinishTiesCardSaid : Prop := Claim7.holds Tryz.pinned (.plain (OpenSpec.ofChange finishTiesSpec)) finishTiesCard

/-- THE TIED CARD OF 'stadionlaw05.FinishSeparates'. -/
def finishSeparatesCard : Claim7 := { stood := { row := finishSeparatesRow, standIns := [], harness := (true, "ac04959ea3d54f453b0abe73a37105ab80d782ef75ffe6435fd053cfb610446a"), looks := true }, kinds := [], alts := [], laidByText := true, laidKinds := [.data, .data, .data, .data, .sentinel, .sentinel, .pinned], laidTests := true, laidLooks := .later }
def FinishSeparatesCardSaid : Prop := Claim7.holds Tryz.pinned (.plain (OpenSpec.ofChange finishSeparatesSpec)) finishSeparatesCard

/-- THE TIED CARD OF 'stadionlaw05.FinishClocks'. -/
def finishClocksCard : Claim7 := { stood := { row := finishClocksRow, standIns := [], harness := (true, "ac04959ea3d54f453b0abe73a37105ab80d782ef75ffe6435fd053cfb610446a"), looks := true }, kinds := [], alts := [], laidByText := true, laidKinds := [.data, .data, .data, .data, .sentinel, .sentinel, .pinned], laidTests := true, laidLooks := .later }
def FinishClocksCardSaid : Prop := Claim7.holds Tryz.pinned (.plain (OpenSpec.ofChange finishClocksSpec)) finishClocksCard

/-- THE TIED CARD OF 'stadionlaw05.FinishStretches'. -/
def finishStretchesCard : Claim7 := { stood := { row := finishStretchesRow, standIns := [], harness := (true, "ac04959ea3d54f453b0abe73a37105ab80d782ef75ffe6435fd053cfb610446a"), looks := true }, kinds := [], alts := [], laidByText := true, laidKinds := [.data, .data, .data, .data, .sentinel, .sentinel, .pinned], laidTests := true, laidLooks := .later }
def FinishStretchesCardSaid : Prop := Claim7.holds Tryz.pinned (.plain (OpenSpec.ofChange finishStretchesSpec)) finishStretchesCard

/-- THE TIED CARD OF 'stadionlaw05.FinishImages'. -/
def finishImagesCard : Claim7 := { stood := { row := finishImagesRow, standIns := [], harness := (true, "ac04959ea3d54f453b0abe73a37105ab80d782ef75ffe6435fd053cfb610446a"), looks := true }, kinds := [], alts := [], laidByText := true, laidKinds := [.data, .data, .data, .data, .sentinel, .sentinel, .pinned], laidTests := true, laidLooks := .later }
def FinishImagesCardSaid : Prop := Claim7.holds Tryz.pinned (.plain (OpenSpec.ofChange finishImagesSpec)) finishImagesCard

/-- THE TIED CARD OF 'stadionlaw05.FinishPacks'. -/
def finishPacksCard : Claim7 := { stood := { row := finishPacksRow, standIns := [], harness := (true, "ac04959ea3d54f453b0abe73a37105ab80d782ef75ffe6435fd053cfb610446a"), looks := true }, kinds := [], alts := [], laidByText := true, laidKinds := [.data, .data, .data, .data, .sentinel, .sentinel, .pinned], laidTests := true, laidLooks := .later }
def FinishPacksCardSaid : Prop := Claim7.holds Tryz.pinned (.plain (OpenSpec.ofChange finishPacksSpec)) finishPacksCard

/-- THE SECOND FORM's CARD OF 'stadionlaw05.FinishTexts'. -/
def finishTextsUptoCard : Claim7 := { stood := { row := finishTextsUptoRow, standIns := [], harness := (true, "ac04959ea3d54f453b0abe73a37105ab80d782ef75ffe6435fd053cfb610446a"), looks := true }, kinds := [], alts := [], laidByText := true, laidKinds := [.data, .data, .data, .data, .sentinel, .sentinel, .pinned], laidTests := true, laidLooks := .later }
def FinishTextsUptoCardSaid : Prop := Claim7.holds Tryz.pinned (.plain (OpenSpec.upto finishTextsSpec)) finishTextsUptoCard

/-- THE SECOND FORM's CARD OF 'stadionlaw05.FinishReadings'. -/
def finishReadingsUptoCard : Claim7 := { stood := { row := finishReadingsUptoRow, standIns := [], harness := (true, "ac04959ea3d54f453b0abe73a37105ab80d782ef75ffe6435fd053cfb610446a"), looks := true }, kinds := [], alts := [], laidByText := true, laidKinds := [.data, .data, .data, .data, .sentinel, .sentinel, .pinned], laidTests := true, laidLooks := .later }
def FinishReadingsUptoCardSaid : Prop := Claim7.holds Tryz.pinned (.plain (OpenSpec.upto finishReadingsSpec)) finishReadingsUptoCard

/-- THE SECOND FORM's CARD OF 'stadionlaw05.FinishOfficials'. -/
def finishOfficialsUptoCard : Claim7 := { stood := { row := finishOfficialsUptoRow, standIns := [], harness := (true, "ac04959ea3d54f453b0abe73a37105ab80d782ef75ffe6435fd053cfb610446a"), looks := true }, kinds := [], alts := [], laidByText := true, laidKinds := [.data, .data, .data, .data, .sentinel, .sentinel, .pinned], laidTests := true, laidLooks := .later }
def FinishOfficialsUptoCardSaid : Prop := Claim7.holds Tryz.pinned (.plain (OpenSpec.upto finishOfficialsSpec)) finishOfficialsUptoCard

/-- THE SECOND FORM's CARD OF 'stadionlaw05.FinishResults'. -/
def finishResultsUptoCard : Claim7 := { stood := { row := finishResultsUptoRow, standIns := [], harness := (true, "ac04959ea3d54f453b0abe73a37105ab80d782ef75ffe6435fd053cfb610446a"), looks := true }, kinds := [], alts := [], laidByText := true, laidKinds := [.data, .data, .data, .data, .sentinel, .sentinel, .pinned], laidTests := true, laidLooks := .later }
def FinishResultsUptoCardSaid : Prop := Claim7.holds Tryz.pinned (.plain (OpenSpec.upto finishResultsSpec)) finishResultsUptoCard

/-- THE SECOND FORM's CARD OF 'stadionlaw05.FinishStarts'. -/
def finishStartsUptoCard : Claim7 := { stood := { row := finishStartsUptoRow, standIns := [], harness := (true, "ac04959ea3d54f453b0abe73a37105ab80d782ef75ffe6435fd053cfb610446a"), looks := true }, kinds := [], alts := [], laidByText := true, laidKinds := [.data, .data, .data, .data, .sentinel, .sentinel, .pinned], laidTests := true, laidLooks := .later }
def FinishStartsUptoCardSaid : Prop := Claim7.holds Tryz.pinned (.plain (OpenSpec.upto finishStartsSpec)) finishStartsUptoCard

/-- THE SECOND FORM's CARD OF 'stadionlaw05.FinishRounds'. -/
def finishRoundsUptoCard : Claim7 := { stood := { row := finishRoundsUptoRow, standIns := [], harness := (true, "ac04959ea3d54f453b0abe73a37105ab80d782ef75ffe6435fd053cfb610446a"), looks := true }, kinds := [], alts := [], laidByText := true, laidKinds := [.data, .data, .data, .data, .sentinel, .sentinel, .pinned], laidTests := true, laidLooks := .later }
def FinishRoundsUptoCardSaid : Prop := Claim7.holds Tryz.pinned (.plain (OpenSpec.upto finishRoundsSpec)) finishRoundsUptoCard

/-- THE SECOND FORM's CARD OF 'stadionlaw05.FinishTies'. -/
def finishTiesUptoCard : Claim7 := { stood := { row := finishTiesUptoRow, standIns := [], harness := (true, "ac04959ea3d54f453b0abe73a37105ab80d782ef75ffe6435fd053cfb610446a"), looks := true }, kinds := [], alts := [], laidByText := true, laidKinds := [.data, .data, .data, .data, .sentinel, .sentinel, .pinned], laidTests := true, laidLooks := .later }
def FinishTiesUptoCardSaid : Prop := Claim7.holds Tryz.pinned (.plain (OpenSpec.upto finishTiesSpec)) finishTiesUptoCard

/-- THE SECOND FORM's CARD OF 'stadionlaw05.FinishSeparates'. -/
def finishSeparatesUptoCard : Claim7 := { stood := { row := finishSeparatesUptoRow, standIns := [], harness := (true, "ac04959ea3d54f453b0abe73a37105ab80d782ef75ffe6435fd053cfb610446a"), looks := true }, kinds := [], alts := [], laidByText := true, laidKinds := [.data, .data, .data, .data, .sentinel, .sentinel, .pinned], laidTests := true, laidLooks := .later }
def FinishSeparatesUptoCardSaid : Prop := Claim7.holds Tryz.pinned (.plain (OpenSpec.upto finishSeparatesSpec)) finishSeparatesUptoCard

/-- THE SECOND FORM's CARD OF 'stadionlaw05.FinishClocks'. -/
def finishClocksUptoCard : Claim7 := { stood := { row := finishClocksUptoRow, standIns := [], harness := (true, "ac04959ea3d54f453b0abe73a37105ab80d782ef75ffe6435fd053cfb610446a"), looks := true }, kinds := [], alts := [], laidByText := true, laidKinds := [.data, .data, .data, .data, .sentinel, .sentinel, .pinned], laidTests := true, laidLooks := .later }
def FinishClocksUptoCardSaid : Prop := Claim7.holds Tryz.pinned (.plain (OpenSpec.upto finishClocksSpec)) finishClocksUptoCard

/-- THE SECOND FORM's CARD OF 'stadionlaw05.FinishStretches'. -/
def finishStretchesUptoCard : Claim7 := { stood := { row := finishStretchesUptoRow, standIns := [], harness := (true, "ac04959ea3d54f453b0abe73a37105ab80d782ef75ffe6435fd053cfb610446a"), looks := true }, kinds := [], alts := [], laidByText := true, laidKinds := [.data, .data, .data, .data, .sentinel, .sentinel, .pinned], laidTests := true, laidLooks := .later }
def FinishStretchesUptoCardSaid : Prop := Claim7.holds Tryz.pinned (.plain (OpenSpec.upto finishStretchesSpec)) finishStretchesUptoCard

/-- THE SECOND FORM's CARD OF 'stadionlaw05.FinishImages'. -/
def finishImagesUptoCard : Claim7 := { stood := { row := finishImagesUptoRow, standIns := [], harness := (true, "ac04959ea3d54f453b0abe73a37105ab80d782ef75ffe6435fd053cfb610446a"), looks := true }, kinds := [], alts := [], laidByText := true, laidKinds := [.data, .data, .data, .data, .sentinel, .sentinel, .pinned], laidTests := true, laidLooks := .later }
def FinishImagesUptoCardSaid : Prop := Claim7.holds Tryz.pinned (.plain (OpenSpec.upto finishImagesSpec)) finishImagesUptoCard

/-- THE SECOND FORM's CARD OF 'stadionlaw05.FinishPacks'. -/
def finishPacksUptoCard : Claim7 := { stood := { row := finishPacksUptoRow, standIns := [], harness := (true, "ac04959ea3d54f453b0abe73a37105ab80d782ef75ffe6435fd053cfb610446a"), looks := true }, kinds := [], alts := [], laidByText := true, laidKinds := [.data, .data, .data, .data, .sentinel, .sentinel, .pinned], laidTests := true, laidLooks := .later }
def FinishPacksUptoCardSaid : Prop := Claim7.holds Tryz.pinned (.plain (OpenSpec.upto finishPacksSpec)) finishPacksUptoCard
end Rows
end Go.Proofs.YtmngppcmhfhgaaaGreatDoor
