/-
  Own work: MarkPreorder: being better is a total preorder of marks, and ranks go with it, for all lists of marks and keys: the card; no condition but the laid tables.
-/
import Derived.Test.YtcjphdmkgmkabaaGreatDoorPreorderRow
import Derived.Test.YtcjphdmkgmkabaaGreatDoorPreorderFacts
import Derived.Test.YtcjphdmkgmkabaaGreatDoorTie
namespace Go.Proofs.YtcjphdmkgmkabaaGreatDoor.markPreorder
open Go.Ab Go.Ab.Ch1 Go.ChangeShapes Go.WideShapes Go.ChangeAt Go.RowKit

theorem said : Rows.MarkPreorderSaid :=
  OpenClaim.holds_of_cond 13 Tryz.f13 rfl rfl rfl rfl rfl rfl rfl ⟨rfl, rfl, rfl, rfl, rfl⟩ rfl rfl rfl rfl rfl named Tryz.func13 closed
    (of_decide_eq_true (by kernel_rfl)) (by unfold Func.isWrapper; first | (rw [if_pos (by decide +kernel)]; kernel_rfl) | (rw [if_neg (by decide +kernel)]; exact ⟨rfl, rfl⟩))
    (fun os started H enc _ F => by rw [OpenClaim.pre_eq_preRow]; exact lifted os started H enc F)

theorem card : Rows.MarkPreorderCardSaid :=
  Claim7.holds_tied_plain_at .later [] _ _ _ _ said (fun _ h => by cases h) wfText (fun _ h => by cases h) markPreorder_row_tie rfl ⟨rfl, rfl⟩ mainIs rfl plain goesF
#print axioms card
end Go.Proofs.YtcjphdmkgmkabaaGreatDoor.markPreorder

