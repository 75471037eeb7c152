/-
  Own work: FinishPacks: an image that is packed and unpacked is the same, mirrored twice or stretched once as well, what is stretched has no more lines of text, runs that are split are read as the same image: the card; no condition but the laid tables.
-/
import Derived.Test.YtmngppcmhfhgaaaGreatDoorPacksRow
import Derived.Test.YtmngppcmhfhgaaaGreatDoorPacksFacts
import Derived.Test.YtmngppcmhfhgaaaGreatDoorTie
namespace Go.Proofs.YtmngppcmhfhgaaaGreatDoor.finishPacks
open Go.Ab Go.Ab.Ch5 Go.ChangeShapes Go.WideShapes Go.ChangeAt Go.RowKit

theorem said : Rows.FinishPacksSaid :=
  OpenClaim.holds_of_cond 14 Tryz.f14 rfl rfl rfl rfl rfl rfl rfl ⟨rfl, rfl, rfl, rfl, rfl⟩ rfl rfl rfl rfl rfl named Tryz.func14 closed
    (of_decide_eq_true (by kernel_rfl)) (by unfold Func.isWrapper; first | (rw [if_pos (by decide +kernel)]; kernel_rfl) | (rw [if_neg (by decide +kernel)]; exact ⟨rfl, rfl⟩))
    (fun os started H enc _ F => by rw [OpenClaim.pre_eq_preRow]; exact lifted os started H enc F)

theorem card : Rows.FinishPacksCardSaid :=
  Claim7.holds_tied_plain_at .later [] _ _ _ _ said (fun _ h => by cases h) wfText (fun _ h => by cases h) finishPacks_row_tie rfl ⟨rfl, rfl⟩ mainIs rfl plain goesF
#print axioms card
end Go.Proofs.YtmngppcmhfhgaaaGreatDoor.finishPacks

