/-
  DERIVED. GIVEN WITH THE SEED: THE CARDS: each row of YtciaaphffkhjeaaGreatDoorRows.lean that lists a variable, with what it lists TIED to the program's text (the seventh form; the later family's looks); each row that meets fmt, with fmt's text TOLD by the authors' own Lean function (tested against real Go, not proved from fmt's source: count such statements apart). THE CARD IS WHAT COUNTS. Prove the row's statement (the work); the ties are given (YtciaaphffkhjeaaGreatDoorTie.lean); close each card by the builder's one call (the guide's Derived/Test/ToyasCard.lean, 'card_holds'). Laid BY PROGRAM, IN A SANDBOX (cutbox-door.mjs). By AI agents, Wed Nov 11 2026. No macro, syntax, notation, axiom, sorry.
-/
import Derived.Test.YtciaaphffkhjeaaGreatDoorRows
import GoSem.ClaimSeven
namespace Go.Proofs.YtciaaphffkhjeaaGreatDoor
namespace Rows

/-- THE TIED CARD OF 'stadionlaw06.FieldChecks'. -/
def fieldChecksCard : Claim7 := { stood := { row := fieldChecksRow, standIns := [], harness := (true, "c5ae058c5baf94fbc6dcb777d2d2bcc45534fe66f18cb704df76775bca5e8475"), looks := true }, kinds := [], alts := [], laidByText := true, laidKinds := [.data, .data, .data, .data, .sentinel, .sentinel, .pinned], laidTests := true, laidLooks := .later }
def FieldChecksCardSaid : Prop := Claim7.holds Tryz.pinned (.plain (OpenSpec.ofChange fieldChecksSpec)) fieldChecksCard

/-- THE TIED CARD OF 'stadionlaw06.FieldActs'. -/
def fieldActsCard : Claim7 := { stood := { row := fieldActsRow, standIns := [], harness := (true, "c5ae058c5baf94fbc6dcb777d2d2bcc45534fe66f18cb704df76775bca5e8475"), looks := true }, kinds := [], alts := [], laidByText := true, laidKinds := [.data, .data, .data, .data, .sentinel, .sentinel, .pinned], laidTests := true, laidLooks := .later }
def FieldActsCardSaid : Prop := Claim7.holds Tryz.pinned (.plain (OpenSpec.ofChange fieldActsSpec)) fieldActsCard

/-- THE TIED CARD OF 'stadionlaw06.FieldRanks'. -/
def fieldRanksCard : Claim7 := { stood := { row := fieldRanksRow, standIns := [], harness := (true, "c5ae058c5baf94fbc6dcb777d2d2bcc45534fe66f18cb704df76775bca5e8475"), looks := true }, kinds := [], alts := [], laidByText := true, laidKinds := [.data, .data, .data, .data, .sentinel, .sentinel, .pinned], laidTests := true, laidLooks := .later }
def FieldRanksCardSaid : Prop := Claim7.holds Tryz.pinned (.plain (OpenSpec.ofChange fieldRanksSpec)) fieldRanksCard

/-- THE TIED CARD OF 'stadionlaw06.FieldFinalists'. -/
def fieldFinalistsCard : Claim7 := { stood := { row := fieldFinalistsRow, standIns := [], harness := (true, "c5ae058c5baf94fbc6dcb777d2d2bcc45534fe66f18cb704df76775bca5e8475"), looks := true }, kinds := [], alts := [], laidByText := true, laidKinds := [.data, .data, .data, .data, .sentinel, .sentinel, .pinned], laidTests := true, laidLooks := .later }
def FieldFinalistsCardSaid : Prop := Claim7.holds Tryz.pinned (.plain (OpenSpec.ofChange fieldFinalistsSpec)) fieldFinalistsCard

/-- THE TIED CARD OF 'stadionlaw06.FieldCompetes'. -/
def fieldCompetesCard : Claim7 := { stood := { row := fieldCompetesRow, standIns := [], harness := (true, "c5ae058c5baf94fbc6dcb777d2d2bcc45534fe66f18cb704df76775bca5e8475"), looks := true }, kinds := [], alts := [], laidByText := true, laidKinds := [.data, .data, .data, .data, .sentinel, .sentinel, .pinned], laidTests := true, laidLooks := .later }
def FieldCompetesCardSaid : Prop := Claim7.holds Tryz.pinned (.plain (OpenSpec.ofChange fieldCompetesSpec)) fieldCompetesCard

/-- THE TIED CARD OF 'stadionlaw06.FieldStands'. -/
def fieldStandsCard : Claim7 := { stood := { row := fieldStandsRow, standIns := [], harness := (true, "c5ae058c5baf94fbc6dcb777d2d2bcc45534fe66f18cb704df76775bca5e8475"), looks := true }, kinds := [], alts := [], laidByText := true, laidKinds := [.data, .data, .data, .data, .sentinel, .sentinel, .pinned], laidTests := true, laidLooks := .later }
def FieldStandsCardSaid : Prop := Claim7.holds Tryz.pinned (.plain (OpenSpec.ofChange fieldStandsSpec)) fieldStandsCard

/-- THE SECOND FORM's CARD OF 'stadionlaw06.FieldChecks'. -/
def fieldChecksUptoCard : Claim7 := { stood := { row := fieldChecksUptoRow, standIns := [], harness := (true, "c5ae058c5baf94fbc6dcb777d2d2bcc45534fe66f18cb704df76775bca5e8475"), looks := true }, kinds := [], alts := [], laidByText := true, laidKinds := [.data, .data, .data, .data, .sentinel, .sentinel, .pinned], laidTests := true, laidLooks := .later }
def FieldChecksUptoCardSaid : Prop := Claim7.holds Tryz.pinned (.plain (OpenSpec.upto fieldChecksSpec)) fieldChecksUptoCard

/-- THE SECOND FORM's CARD OF 'stadionlaw06.FieldActs'. -/
def fieldActsUptoCard : Claim7 := { stood := { row := fieldActsUptoRow, standIns := [], harness := (true, "c5ae058c5baf94fbc6dcb777d2d2bcc45534fe66f18cb704df76775bca5e8475"), looks := true }, kinds := [], alts := [], laidByText := true, laidKinds := [.data, .data, .data, .data, .sentinel, .sentinel, .pinned], laidTests := true, laidLooks := .later }
def FieldActsUptoCardSaid : Prop := Claim7.holds Tryz.pinned (.plain (OpenSpec.upto fieldActsSpec)) fieldActsUptoCard

/-- THE SECOND FORM's CARD OF 'stadionlaw06.FieldRanks'. -/
def fieldRanksUptoCard : Claim7 := { stood := { row := fieldRanksUptoRow, standIns := [], harness := (true, "c5ae058c5baf94fbc6dcb777d2d2bcc45534fe66f18cb704df76775bca5e8475"), looks := true }, kinds := [], alts := [], laidByText := true, laidKinds := [.data, .data, .data, .data, .sentinel, .sentinel, .pinned], laidTests := true, laidLooks := .later }
def FieldRanksUptoCardSaid : Prop := Claim7.holds Tryz.pinned (.plain (OpenSpec.upto fieldRanksSpec)) fieldRanksUptoCard

/-- THE SECOND FORM's CARD OF 'stadionlaw06.FieldFinalists'. -/
def fieldFinalistsUptoCard : Claim7 := { stood := { row := fieldFinalistsUptoRow, standIns := [], harness := (true, "c5ae058c5baf94fbc6dcb777d2d2bcc45534fe66f18cb704df76775bca5e8475"), looks := true }, kinds := [], alts := [], laidByText := true, laidKinds := [.data, .data, .data, .data, .sentinel, .sentinel, .pinned], laidTests := true, laidLooks := .later }
def FieldFinalistsUptoCardSaid : Prop := Claim7.holds Tryz.pinned (.plain (OpenSpec.upto fieldFinalistsSpec)) fieldFinalistsUptoCard

/-- THE SECOND FORM's CARD OF 'stadionlaw06.FieldCompetes'. -/
def fieldCompetesUptoCard : Claim7 := { stood := { row := fieldCompetesUptoRow, standIns := [], harness := (true, "c5ae058c5baf94fbc6dcb777d2d2bcc45534fe66f18cb704df76775bca5e8475"), looks := true }, kinds := [], alts := [], laidByText := true, laidKinds := [.data, .data, .data, .data, .sentinel, .sentinel, .pinned], laidTests := true, laidLooks := .later }
def FieldCompetesUptoCardSaid : Prop := Claim7.holds Tryz.pinned (.plain (OpenSpec.upto fieldCompetesSpec)) fieldCompetesUptoCard

/-- THE SECOND FORM's CARD OF 'stadionlaw06.FieldStands'. -/
def fieldStandsUptoCard : Claim7 := { stood := { row := fieldStandsUptoRow, standIns := [], harness := (true, "c5ae058c5baf94fbc6dcb777d2d2bcc45534fe66f18cb704df76775bca5e8475"), looks := true }, kinds := [], alts := [], laidByText := true, laidKinds := [.data, .data, .data, .data, .sentinel, .sentinel, .pinned], laidTests := true, laidLooks := .later }
def FieldStandsUptoCardSaid : Prop := Claim7.holds Tryz.pinned (.plain (OpenSpec.upto fieldStandsSpec)) fieldStandsUptoCard
end Rows
end Go.Proofs.YtciaaphffkhjeaaGreatDoor
