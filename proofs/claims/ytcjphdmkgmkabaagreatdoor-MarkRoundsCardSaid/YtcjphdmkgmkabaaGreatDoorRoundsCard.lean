/-
  Own work: MarkRounds: a rounded mark is a multiple, no better and less than one unit away, is rounded already, and rounding keeps the order, winds likewise, for all marks and classes: the card; no condition but the laid tables.
-/
import Derived.Test.YtcjphdmkgmkabaaGreatDoorRoundsRow
import Derived.Test.YtcjphdmkgmkabaaGreatDoorRoundsFacts
import Derived.Test.YtcjphdmkgmkabaaGreatDoorTie
namespace Go.Proofs.YtcjphdmkgmkabaaGreatDoor.markRounds
open Go.Ab Go.Ab.Ch1 Go.ChangeShapes Go.WideShapes Go.ChangeAt Go.RowKit

theorem said : Rows.MarkRoundsSaid :=
  OpenClaim.holds_of_cond 11 Tryz.f11 rfl rfl rfl rfl rfl rfl rfl ⟨rfl, rfl, rfl, rfl, rfl⟩ rfl rfl rfl rfl rfl named Tryz.func11 closed
    (of_decide_eq_true (by kernel_rfl)) (by unfold Func.isWrapper; first | (rw [if_pos (by decide +kernel)]; kernel_rfl) | (rw [if_neg (by decide +kernel)]; exact ⟨rfl, rfl⟩))
    (fun os started H enc _ F => by rw [OpenClaim.pre_eq_preRow]; exact lifted os started H enc F)

theorem card : Rows.MarkRoundsCardSaid :=
  Claim7.holds_tied_plain_at .later [] _ _ _ _ said (fun _ h => by cases h) wfText (fun _ h => by cases h) markRounds_row_tie rfl ⟨rfl, rfl⟩ mainIs rfl plain goesF
#print axioms card
end Go.Proofs.YtcjphdmkgmkabaaGreatDoor.markRounds

