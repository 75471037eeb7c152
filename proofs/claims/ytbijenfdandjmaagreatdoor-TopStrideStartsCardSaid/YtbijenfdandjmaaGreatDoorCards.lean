/-
  DERIVED. GIVEN WITH THE SEED: THE CARDS: each row of YtbijenfdandjmaaGreatDoorRows.lean that lists a variable, with what it lists TIED to the program's text (the seventh form; the later family's looks); each row that meets fmt, with fmt's text TOLD by the authors' own Lean function (tested against real Go, not proved from fmt's source: count such statements apart). THE CARD IS WHAT COUNTS. Prove the row's statement (the work); the ties are given (YtbijenfdandjmaaGreatDoorTie.lean); close each card by the builder's one call (the guide's Derived/Test/ToyasCard.lean, 'card_holds'). Laid BY PROGRAM, IN A SANDBOX (cutbox-door.mjs). By AI agents, Wed Nov 11 2026. No macro, syntax, notation, axiom, sorry.
-/
import Derived.Test.YtbijenfdandjmaaGreatDoorRows
import GoSem.ClaimSeven
namespace Go.Proofs.YtbijenfdandjmaaGreatDoor
namespace Rows

/-- THE TIED CARD OF 'stadiontop.TopStrideStarts'. -/
def topStrideStartsCard : Claim7 := { stood := { row := topStrideStartsRow, standIns := [], harness := (true, "b2345be2d11986f352a1c4f9f01d77129c97d7c45344610e123921555c754f7c"), looks := true }, kinds := [], alts := [], laidByText := true, laidKinds := [.data, .data, .data, .data, .sentinel, .sentinel, .pinned], laidTests := true, laidLooks := .later }
def TopStrideStartsCardSaid : Prop := Claim7.holds Tryz.pinned (.plain (OpenSpec.ofChange topStrideStartsSpec)) topStrideStartsCard

/-- THE SECOND FORM's CARD OF 'stadiontop.TopStrideStarts'. -/
def topStrideStartsUptoCard : Claim7 := { stood := { row := topStrideStartsUptoRow, standIns := [], harness := (true, "b2345be2d11986f352a1c4f9f01d77129c97d7c45344610e123921555c754f7c"), looks := true }, kinds := [], alts := [], laidByText := true, laidKinds := [.data, .data, .data, .data, .sentinel, .sentinel, .pinned], laidTests := true, laidLooks := .later }
def TopStrideStartsUptoCardSaid : Prop := Claim7.holds Tryz.pinned (.plain (OpenSpec.upto topStrideStartsSpec)) topStrideStartsUptoCard
end Rows
end Go.Proofs.YtbijenfdandjmaaGreatDoor
