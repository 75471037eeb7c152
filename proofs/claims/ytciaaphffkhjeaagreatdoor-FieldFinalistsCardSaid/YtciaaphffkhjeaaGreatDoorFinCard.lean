/-
  Own work: FieldFinalists: the program's finalists are the reference's: the card; no condition but the laid tables.
-/
import Derived.Test.YtciaaphffkhjeaaGreatDoorFinRow
import Derived.Test.YtciaaphffkhjeaaGreatDoorFinFacts
import Derived.Test.YtciaaphffkhjeaaGreatDoorTie
namespace Go.Proofs.YtciaaphffkhjeaaGreatDoor.fieldFinalists
open Go.Ab Go.Ab.Ch6 Go.ChangeShapes Go.WideShapes Go.ChangeAt Go.RowKit
theorem said : Rows.FieldFinalistsSaid :=
  OpenClaim.holds_of_cond 6 Tryz.f6 rfl rfl rfl rfl rfl rfl rfl ⟨rfl, rfl, rfl, rfl, rfl⟩ rfl rfl rfl rfl rfl named Tryz.func6 closed
    (of_decide_eq_true (by kernel_rfl)) (by unfold Func.isWrapper; first | (rw [if_pos (by decide +kernel)]; kernel_rfl) | (rw [if_neg (by decide +kernel)]; exact ⟨rfl, rfl⟩))
    (fun os started H enc _ F => by rw [OpenClaim.pre_eq_preRow]; exact lifted os started H enc F)
theorem card : Rows.FieldFinalistsCardSaid :=
  Claim7.holds_tied_plain_at .later [] _ _ _ _ said (fun _ h => by cases h) wfText (fun _ h => by cases h) fieldFinalists_row_tie rfl ⟨rfl, rfl⟩ mainIs rfl plain goesF
#print axioms card
end Go.Proofs.YtciaaphffkhjeaaGreatDoor.fieldFinalists
