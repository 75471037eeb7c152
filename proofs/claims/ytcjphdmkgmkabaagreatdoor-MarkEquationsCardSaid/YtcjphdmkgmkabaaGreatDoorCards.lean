/-
  DERIVED. GIVEN WITH THE SEED: THE CARDS: each row of YtcjphdmkgmkabaaGreatDoorRows.lean that lists a variable, with what it lists TIED to the program's text (the seventh form; the later family's looks); each row that meets fmt, with fmt's text TOLD by the authors' own Lean function (tested against real Go, not proved from fmt's source: count such statements apart). THE CARD IS WHAT COUNTS. Prove the row's statement (the work); the ties are given (YtcjphdmkgmkabaaGreatDoorTie.lean); close each card by the builder's one call (the guide's Derived/Test/ToyasCard.lean, 'card_holds'). Laid BY PROGRAM, IN A SANDBOX (cutbox-door.mjs). By AI agents, Wed Nov 11 2026. No macro, syntax, notation, axiom, sorry.
-/
import Derived.Test.YtcjphdmkgmkabaaGreatDoorRows
import GoSem.ClaimSeven
namespace Go.Proofs.YtcjphdmkgmkabaaGreatDoor
namespace Rows

/-- THE TIED CARD OF 'stadionlaw01.MarkDraws'. -/
def markDrawsCard : Claim7 := { stood := { row := markDrawsRow, standIns := [], harness := (true, "156f8ac61ae7a73b404f02b655fa35a7bde710d78ebf9d0051d5575eb8198564"), looks := true }, kinds := [], alts := [], laidByText := true, laidKinds := [.data, .data, .data, .data, .sentinel, .sentinel, .pinned], laidTests := true, laidLooks := .later }
def MarkDrawsCardSaid : Prop := Claim7.holds Tryz.pinned (.plain (OpenSpec.ofChange markDrawsSpec)) markDrawsCard

/-- THE TIED CARD OF 'stadionlaw01.MarkEquations'. -/
def markEquationsCard : Claim7 := { stood := { row := markEquationsRow, standIns := [], harness := (true, "156f8ac61ae7a73b404f02b655fa35a7bde710d78ebf9d0051d5575eb8198564"), looks := true }, kinds := [], alts := [], laidByText := true, laidKinds := [.data, .data, .data, .data, .sentinel, .sentinel, .pinned], laidTests := true, laidLooks := .later }
def MarkEquationsCardSaid : Prop := Claim7.holds Tryz.pinned (.plain (OpenSpec.ofChange markEquationsSpec)) markEquationsCard

/-- THE TIED CARD OF 'stadionlaw01.MarkChecks'. -/
def markChecksCard : Claim7 := { stood := { row := markChecksRow, standIns := [], harness := (true, "156f8ac61ae7a73b404f02b655fa35a7bde710d78ebf9d0051d5575eb8198564"), looks := true }, kinds := [], alts := [], laidByText := true, laidKinds := [.data, .data, .data, .data, .sentinel, .sentinel, .pinned], laidTests := true, laidLooks := .later }
def MarkChecksCardSaid : Prop := Claim7.holds Tryz.pinned (.plain (OpenSpec.ofChange markChecksSpec)) markChecksCard

/-- THE TIED CARD OF 'stadionlaw01.MarkTexts'. -/
def markTextsCard : Claim7 := { stood := { row := markTextsRow, standIns := [], harness := (true, "156f8ac61ae7a73b404f02b655fa35a7bde710d78ebf9d0051d5575eb8198564"), looks := true }, kinds := [], alts := [], laidByText := true, laidKinds := [.data, .data, .data, .data, .sentinel, .sentinel, .pinned], laidTests := true, laidLooks := .later }
def MarkTextsCardSaid : Prop := Claim7.holds Tryz.pinned (.plain (OpenSpec.ofChange markTextsSpec)) markTextsCard

/-- THE TIED CARD OF 'stadionlaw01.MarkRanks'. -/
def markRanksCard : Claim7 := { stood := { row := markRanksRow, standIns := [], harness := (true, "156f8ac61ae7a73b404f02b655fa35a7bde710d78ebf9d0051d5575eb8198564"), looks := true }, kinds := [], alts := [], laidByText := true, laidKinds := [.data, .data, .data, .data, .sentinel, .sentinel, .pinned], laidTests := true, laidLooks := .later }
def MarkRanksCardSaid : Prop := Claim7.holds Tryz.pinned (.plain (OpenSpec.ofChange markRanksSpec)) markRanksCard

/-- THE TIED CARD OF 'stadionlaw01.MarkRoots'. -/
def markRootsCard : Claim7 := { stood := { row := markRootsRow, standIns := [], harness := (true, "156f8ac61ae7a73b404f02b655fa35a7bde710d78ebf9d0051d5575eb8198564"), looks := true }, kinds := [], alts := [], laidByText := true, laidKinds := [.data, .data, .data, .data, .sentinel, .sentinel, .pinned], laidTests := true, laidLooks := .later }
def MarkRootsCardSaid : Prop := Claim7.holds Tryz.pinned (.plain (OpenSpec.ofChange markRootsSpec)) markRootsCard

/-- THE TIED CARD OF 'stadionlaw01.MarkShuffles'. -/
def markShufflesCard : Claim7 := { stood := { row := markShufflesRow, standIns := [], harness := (true, "156f8ac61ae7a73b404f02b655fa35a7bde710d78ebf9d0051d5575eb8198564"), looks := true }, kinds := [], alts := [], laidByText := true, laidKinds := [.data, .data, .data, .data, .sentinel, .sentinel, .pinned], laidTests := true, laidLooks := .later }
def MarkShufflesCardSaid : Prop := Claim7.holds Tryz.pinned (.plain (OpenSpec.ofChange markShufflesSpec)) markShufflesCard

/-- THE TIED CARD OF 'stadionlaw01.MarkLines'. -/
def markLinesCard : Claim7 := { stood := { row := markLinesRow, standIns := [], harness := (true, "156f8ac61ae7a73b404f02b655fa35a7bde710d78ebf9d0051d5575eb8198564"), looks := true }, kinds := [], alts := [], laidByText := true, laidKinds := [.data, .data, .data, .data, .sentinel, .sentinel, .pinned], laidTests := true, laidLooks := .later }
def MarkLinesCardSaid : Prop := Claim7.holds Tryz.pinned (.plain (OpenSpec.ofChange markLinesSpec)) markLinesCard

/-- THE TIED CARD OF 'stadionlaw01.MarkRounds'. -/
def markRoundsCard : Claim7 := { stood := { row := markRoundsRow, standIns := [], harness := (true, "156f8ac61ae7a73b404f02b655fa35a7bde710d78ebf9d0051d5575eb8198564"), looks := true }, kinds := [], alts := [], laidByText := true, laidKinds := [.data, .data, .data, .data, .sentinel, .sentinel, .pinned], laidTests := true, laidLooks := .later }
def MarkRoundsCardSaid : Prop := Claim7.holds Tryz.pinned (.plain (OpenSpec.ofChange markRoundsSpec)) markRoundsCard

/-- THE TIED CARD OF 'stadionlaw01.MarkReads'. -/
def markReadsCard : Claim7 := { stood := { row := markReadsRow, standIns := [], harness := (true, "156f8ac61ae7a73b404f02b655fa35a7bde710d78ebf9d0051d5575eb8198564"), looks := true }, kinds := [], alts := [], laidByText := true, laidKinds := [.data, .data, .data, .data, .sentinel, .sentinel, .pinned], laidTests := true, laidLooks := .later }
def MarkReadsCardSaid : Prop := Claim7.holds Tryz.pinned (.plain (OpenSpec.ofChange markReadsSpec)) markReadsCard

/-- THE TIED CARD OF 'stadionlaw01.MarkPreorder'. -/
def markPreorderCard : Claim7 := { stood := { row := markPreorderRow, standIns := [], harness := (true, "156f8ac61ae7a73b404f02b655fa35a7bde710d78ebf9d0051d5575eb8198564"), looks := true }, kinds := [], alts := [], laidByText := true, laidKinds := [.data, .data, .data, .data, .sentinel, .sentinel, .pinned], laidTests := true, laidLooks := .later }
def MarkPreorderCardSaid : Prop := Claim7.holds Tryz.pinned (.plain (OpenSpec.ofChange markPreorderSpec)) markPreorderCard

/-- THE TIED CARD OF 'stadionlaw01.MarkTables'. -/
def markTablesCard : Claim7 := { stood := { row := markTablesRow, standIns := [], harness := (true, "156f8ac61ae7a73b404f02b655fa35a7bde710d78ebf9d0051d5575eb8198564"), looks := true }, kinds := [], alts := [], laidByText := true, laidKinds := [.data, .data, .data, .data, .sentinel, .sentinel, .pinned], laidTests := true, laidLooks := .later }
def MarkTablesCardSaid : Prop := Claim7.holds Tryz.pinned (.plain (OpenSpec.ofChange markTablesSpec)) markTablesCard

/-- THE TIED CARD OF 'stadionlaw01.MarkParts'. -/
def markPartsCard : Claim7 := { stood := { row := markPartsRow, standIns := [], harness := (true, "156f8ac61ae7a73b404f02b655fa35a7bde710d78ebf9d0051d5575eb8198564"), looks := true }, kinds := [], alts := [], laidByText := true, laidKinds := [.data, .data, .data, .data, .sentinel, .sentinel, .pinned], laidTests := true, laidLooks := .later }
def MarkPartsCardSaid : Prop := Claim7.holds Tryz.pinned (.plain (OpenSpec.ofChange markPartsSpec)) markPartsCard

/-- THE TIED CARD OF 'stadionlaw01.MarkNumbers'. -/
def markNumbersCard : Claim7 := { stood := { row := markNumbersRow, standIns := [], harness := (true, "156f8ac61ae7a73b404f02b655fa35a7bde710d78ebf9d0051d5575eb8198564"), looks := true }, kinds := [], alts := [], laidByText := true, laidKinds := [.data, .data, .data, .data, .sentinel, .sentinel, .pinned], laidTests := true, laidLooks := .later }
def MarkNumbersCardSaid : Prop := Claim7.holds Tryz.pinned (.plain (OpenSpec.ofChange markNumbersSpec)) markNumbersCard

/-- THE TIED CARD OF 'stadionlaw01.MarkField'. -/
def markFieldCard : Claim7 := { stood := { row := markFieldRow, standIns := [], harness := (true, "156f8ac61ae7a73b404f02b655fa35a7bde710d78ebf9d0051d5575eb8198564"), looks := true }, kinds := [], alts := [], laidByText := true, laidKinds := [.data, .data, .data, .data, .sentinel, .sentinel, .pinned], laidTests := true, laidLooks := .later }
def MarkFieldCardSaid : Prop := Claim7.holds Tryz.pinned (.plain (OpenSpec.ofChange markFieldSpec)) markFieldCard

/-- THE SECOND FORM's CARD OF 'stadionlaw01.MarkDraws'. -/
def markDrawsUptoCard : Claim7 := { stood := { row := markDrawsUptoRow, standIns := [], harness := (true, "156f8ac61ae7a73b404f02b655fa35a7bde710d78ebf9d0051d5575eb8198564"), looks := true }, kinds := [], alts := [], laidByText := true, laidKinds := [.data, .data, .data, .data, .sentinel, .sentinel, .pinned], laidTests := true, laidLooks := .later }
def MarkDrawsUptoCardSaid : Prop := Claim7.holds Tryz.pinned (.plain (OpenSpec.upto markDrawsSpec)) markDrawsUptoCard

/-- THE SECOND FORM's CARD OF 'stadionlaw01.MarkEquations'. -/
def markEquationsUptoCard : Claim7 := { stood := { row := markEquationsUptoRow, standIns := [], harness := (true, "156f8ac61ae7a73b404f02b655fa35a7bde710d78ebf9d0051d5575eb8198564"), looks := true }, kinds := [], alts := [], laidByText := true, laidKinds := [.data, .data, .data, .data, .sentinel, .sentinel, .pinned], laidTests := true, laidLooks := .later }
def MarkEquationsUptoCardSaid : Prop := Claim7.holds Tryz.pinned (.plain (OpenSpec.upto markEquationsSpec)) markEquationsUptoCard

/-- THE SECOND FORM's CARD OF 'stadionlaw01.MarkChecks'. -/
def markChecksUptoCard : Claim7 := { stood := { row := markChecksUptoRow, standIns := [], harness := (true, "156f8ac61ae7a73b404f02b655fa35a7bde710d78ebf9d0051d5575eb8198564"), looks := true }, kinds := [], alts := [], laidByText := true, laidKinds := [.data, .data, .data, .data, .sentinel, .sentinel, .pinned], laidTests := true, laidLooks := .later }
def MarkChecksUptoCardSaid : Prop := Claim7.holds Tryz.pinned (.plain (OpenSpec.upto markChecksSpec)) markChecksUptoCard

/-- THE SECOND FORM's CARD OF 'stadionlaw01.MarkTexts'. -/
def markTextsUptoCard : Claim7 := { stood := { row := markTextsUptoRow, standIns := [], harness := (true, "156f8ac61ae7a73b404f02b655fa35a7bde710d78ebf9d0051d5575eb8198564"), looks := true }, kinds := [], alts := [], laidByText := true, laidKinds := [.data, .data, .data, .data, .sentinel, .sentinel, .pinned], laidTests := true, laidLooks := .later }
def MarkTextsUptoCardSaid : Prop := Claim7.holds Tryz.pinned (.plain (OpenSpec.upto markTextsSpec)) markTextsUptoCard

/-- THE SECOND FORM's CARD OF 'stadionlaw01.MarkRanks'. -/
def markRanksUptoCard : Claim7 := { stood := { row := markRanksUptoRow, standIns := [], harness := (true, "156f8ac61ae7a73b404f02b655fa35a7bde710d78ebf9d0051d5575eb8198564"), looks := true }, kinds := [], alts := [], laidByText := true, laidKinds := [.data, .data, .data, .data, .sentinel, .sentinel, .pinned], laidTests := true, laidLooks := .later }
def MarkRanksUptoCardSaid : Prop := Claim7.holds Tryz.pinned (.plain (OpenSpec.upto markRanksSpec)) markRanksUptoCard

/-- THE SECOND FORM's CARD OF 'stadionlaw01.MarkRoots'. -/
def markRootsUptoCard : Claim7 := { stood := { row := markRootsUptoRow, standIns := [], harness := (true, "156f8ac61ae7a73b404f02b655fa35a7bde710d78ebf9d0051d5575eb8198564"), looks := true }, kinds := [], alts := [], laidByText := true, laidKinds := [.data, .data, .data, .data, .sentinel, .sentinel, .pinned], laidTests := true, laidLooks := .later }
def MarkRootsUptoCardSaid : Prop := Claim7.holds Tryz.pinned (.plain (OpenSpec.upto markRootsSpec)) markRootsUptoCard

/-- THE SECOND FORM's CARD OF 'stadionlaw01.MarkShuffles'. -/
def markShufflesUptoCard : Claim7 := { stood := { row := markShufflesUptoRow, standIns := [], harness := (true, "156f8ac61ae7a73b404f02b655fa35a7bde710d78ebf9d0051d5575eb8198564"), looks := true }, kinds := [], alts := [], laidByText := true, laidKinds := [.data, .data, .data, .data, .sentinel, .sentinel, .pinned], laidTests := true, laidLooks := .later }
def MarkShufflesUptoCardSaid : Prop := Claim7.holds Tryz.pinned (.plain (OpenSpec.upto markShufflesSpec)) markShufflesUptoCard

/-- THE SECOND FORM's CARD OF 'stadionlaw01.MarkLines'. -/
def markLinesUptoCard : Claim7 := { stood := { row := markLinesUptoRow, standIns := [], harness := (true, "156f8ac61ae7a73b404f02b655fa35a7bde710d78ebf9d0051d5575eb8198564"), looks := true }, kinds := [], alts := [], laidByText := true, laidKinds := [.data, .data, .data, .data, .sentinel, .sentinel, .pinned], laidTests := true, laidLooks := .later }
def MarkLinesUptoCardSaid : Prop := Claim7.holds Tryz.pinned (.plain (OpenSpec.upto markLinesSpec)) markLinesUptoCard

/-- THE SECOND FORM's CARD OF 'stadionlaw01.MarkRounds'. -/
def markRoundsUptoCard : Claim7 := { stood := { row := markRoundsUptoRow, standIns := [], harness := (true, "156f8ac61ae7a73b404f02b655fa35a7bde710d78ebf9d0051d5575eb8198564"), looks := true }, kinds := [], alts := [], laidByText := true, laidKinds := [.data, .data, .data, .data, .sentinel, .sentinel, .pinned], laidTests := true, laidLooks := .later }
def MarkRoundsUptoCardSaid : Prop := Claim7.holds Tryz.pinned (.plain (OpenSpec.upto markRoundsSpec)) markRoundsUptoCard

/-- THE SECOND FORM's CARD OF 'stadionlaw01.MarkReads'. -/
def markReadsUptoCard : Claim7 := { stood := { row := markReadsUptoRow, standIns := [], harness := (true, "156f8ac61ae7a73b404f02b655fa35a7bde710d78ebf9d0051d5575eb8198564"), looks := true }, kinds := [], alts := [], laidByText := true, laidKinds := [.data, .data, .data, .data, .sentinel, .sentinel, .pinned], laidTests := true, laidLooks := .later }
def MarkReadsUptoCardSaid : Prop := Claim7.holds Tryz.pinned (.plain (OpenSpec.upto markReadsSpec)) markReadsUptoCard

/-- THE SECOND FORM's CARD OF 'stadionlaw01.MarkPreorder'. -/
def markPreorderUptoCard : Claim7 := { stood := { row := markPreorderUptoRow, standIns := [], harness := (true, "156f8ac61ae7a73b404f02b655fa35a7bde710d78ebf9d0051d5575eb8198564"), looks := true }, kinds := [], alts := [], laidByText := true, laidKinds := [.data, .data, .data, .data, .sentinel, .sentinel, .pinned], laidTests := true, laidLooks := .later }
def MarkPreorderUptoCardSaid : Prop := Claim7.holds Tryz.pinned (.plain (OpenSpec.upto markPreorderSpec)) markPreorderUptoCard

/-- THE SECOND FORM's CARD OF 'stadionlaw01.MarkTables'. -/
def markTablesUptoCard : Claim7 := { stood := { row := markTablesUptoRow, standIns := [], harness := (true, "156f8ac61ae7a73b404f02b655fa35a7bde710d78ebf9d0051d5575eb8198564"), looks := true }, kinds := [], alts := [], laidByText := true, laidKinds := [.data, .data, .data, .data, .sentinel, .sentinel, .pinned], laidTests := true, laidLooks := .later }
def MarkTablesUptoCardSaid : Prop := Claim7.holds Tryz.pinned (.plain (OpenSpec.upto markTablesSpec)) markTablesUptoCard

/-- THE SECOND FORM's CARD OF 'stadionlaw01.MarkParts'. -/
def markPartsUptoCard : Claim7 := { stood := { row := markPartsUptoRow, standIns := [], harness := (true, "156f8ac61ae7a73b404f02b655fa35a7bde710d78ebf9d0051d5575eb8198564"), looks := true }, kinds := [], alts := [], laidByText := true, laidKinds := [.data, .data, .data, .data, .sentinel, .sentinel, .pinned], laidTests := true, laidLooks := .later }
def MarkPartsUptoCardSaid : Prop := Claim7.holds Tryz.pinned (.plain (OpenSpec.upto markPartsSpec)) markPartsUptoCard

/-- THE SECOND FORM's CARD OF 'stadionlaw01.MarkNumbers'. -/
def markNumbersUptoCard : Claim7 := { stood := { row := markNumbersUptoRow, standIns := [], harness := (true, "156f8ac61ae7a73b404f02b655fa35a7bde710d78ebf9d0051d5575eb8198564"), looks := true }, kinds := [], alts := [], laidByText := true, laidKinds := [.data, .data, .data, .data, .sentinel, .sentinel, .pinned], laidTests := true, laidLooks := .later }
def MarkNumbersUptoCardSaid : Prop := Claim7.holds Tryz.pinned (.plain (OpenSpec.upto markNumbersSpec)) markNumbersUptoCard

/-- THE SECOND FORM's CARD OF 'stadionlaw01.MarkField'. -/
def markFieldUptoCard : Claim7 := { stood := { row := markFieldUptoRow, standIns := [], harness := (true, "156f8ac61ae7a73b404f02b655fa35a7bde710d78ebf9d0051d5575eb8198564"), looks := true }, kinds := [], alts := [], laidByText := true, laidKinds := [.data, .data, .data, .data, .sentinel, .sentinel, .pinned], laidTests := true, laidLooks := .later }
def MarkFieldUptoCardSaid : Prop := Claim7.holds Tryz.pinned (.plain (OpenSpec.upto markFieldSpec)) markFieldUptoCard
end Rows
end Go.Proofs.YtcjphdmkgmkabaaGreatDoor
