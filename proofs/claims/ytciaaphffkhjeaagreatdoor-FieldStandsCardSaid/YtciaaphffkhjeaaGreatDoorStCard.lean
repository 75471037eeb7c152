/-
  Own work: FieldStands: the program's errors, standings and heights of the jump-off are the reference's: the card; no condition but the laid tables.
-/
import Derived.Test.YtciaaphffkhjeaaGreatDoorStRow
import Derived.Test.YtciaaphffkhjeaaGreatDoorStFacts
import Derived.Test.YtciaaphffkhjeaaGreatDoorTie
namespace Go.Proofs.YtciaaphffkhjeaaGreatDoor.fieldStands
open Go.Ab Go.Ab.Ch6 Go.ChangeShapes Go.WideShapes Go.ChangeAt Go.RowKit
theorem said:Rows.FieldStandsSaid:=
 OpenClaim.holds_of_cond 8 Tryz.f8 rfl rfl rfl rfl rfl rfl rfl ⟨rfl,rfl,rfl,rfl,rfl⟩ rfl rfl rfl rfl rfl named Tryz.func8 closed
  (of_decide_eq_true (by kernel_rfl)) (by unfold Func.isWrapper;first|(rw [if_pos (by decide +kernel)];kernel_rfl)|(rw [if_neg (by decide +kernel)];exact ⟨rfl,rfl⟩))
  (fun os started H enc _ F=>by rw [OpenClaim.pre_eq_preRow];exact lifted os started H enc F)
theorem card:Rows.FieldStandsCardSaid:=
 Claim7.holds_tied_plain_at .later [] _ _ _ _ said (fun _ h=>by cases h) wfText (fun _ h=>by cases h) fieldStands_row_tie rfl ⟨rfl,rfl⟩ mainIs rfl plain goesF
#print axioms card
end Go.Proofs.YtciaaphffkhjeaaGreatDoor.fieldStands
