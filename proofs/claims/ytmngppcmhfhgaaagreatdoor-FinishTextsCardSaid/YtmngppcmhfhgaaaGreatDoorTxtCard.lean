/-
  Own work: FinishTexts: Pack and Unpack return what the reference returns, or the first error, for all images and texts: the card; no condition but the laid tables.
-/
import Derived.Test.YtmngppcmhfhgaaaGreatDoorTxtRow
import Derived.Test.YtmngppcmhfhgaaaGreatDoorTxtFacts
import Derived.Test.YtmngppcmhfhgaaaGreatDoorTie
namespace Go.Proofs.YtmngppcmhfhgaaaGreatDoor.finishTexts
open Go.Ab Go.Ab.Ch5 Go.ChangeShapes Go.WideShapes Go.ChangeAt Go.RowKit

theorem said : Rows.FinishTextsSaid :=
  OpenClaim.holds_of_cond 3 Tryz.f3 rfl rfl rfl rfl rfl rfl rfl ⟨rfl, rfl, rfl, rfl, rfl⟩ rfl rfl rfl rfl rfl named Tryz.func3 closed
    (of_decide_eq_true (by kernel_rfl)) (by unfold Func.isWrapper; first | (rw [if_pos (by decide +kernel)]; kernel_rfl) | (rw [if_neg (by decide +kernel)]; exact ⟨rfl, rfl⟩))
    (fun os started H enc _ F => by rw [OpenClaim.pre_eq_preRow]; exact lifted os started H enc F)

theorem card : Rows.FinishTextsCardSaid :=
  Claim7.holds_tied_plain_at .later [] _ _ _ _ said (fun _ h => by cases h) wfText (fun _ h => by cases h) finishTexts_row_tie rfl ⟨rfl, rfl⟩ mainIs rfl plain goesF
#print axioms card
end Go.Proofs.YtmngppcmhfhgaaaGreatDoor.finishTexts

