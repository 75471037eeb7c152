/-
  Own work: FinishImages: CheckImage, Torsos, First, Mirrored and Stretched return what the reference returns, or the first error, for all images, athletes and times: the card; no condition but the laid tables.
-/
import Derived.Test.YtmngppcmhfhgaaaGreatDoorImgRow
import Derived.Test.YtmngppcmhfhgaaaGreatDoorImgFacts
import Derived.Test.YtmngppcmhfhgaaaGreatDoorTie
namespace Go.Proofs.YtmngppcmhfhgaaaGreatDoor.finishImages
open Go.Ab Go.Ab.Ch5 Go.ChangeShapes Go.WideShapes Go.ChangeAt Go.RowKit

theorem said : Rows.FinishImagesSaid :=
  OpenClaim.holds_of_cond 13 Tryz.f13 rfl rfl rfl rfl rfl rfl rfl ⟨rfl, rfl, rfl, rfl, rfl⟩ rfl rfl rfl rfl rfl named Tryz.func13 closed
    (of_decide_eq_true (by kernel_rfl)) (by unfold Func.isWrapper; first | (rw [if_pos (by decide +kernel)]; kernel_rfl) | (rw [if_neg (by decide +kernel)]; exact ⟨rfl, rfl⟩))
    (fun os started H enc _ F => by rw [OpenClaim.pre_eq_preRow]; exact lifted os started H enc F)

theorem card : Rows.FinishImagesCardSaid :=
  Claim7.holds_tied_plain_at .later [] _ _ _ _ said (fun _ h => by cases h) wfText (fun _ h => by cases h) finishImages_row_tie rfl ⟨rfl, rfl⟩ mainIs rfl plain goesF
#print axioms card
end Go.Proofs.YtmngppcmhfhgaaaGreatDoor.finishImages

