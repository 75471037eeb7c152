/-
  Own work: FinishTies: Separated and Ties return what the reference returns, or the first error: the card; no condition but the laid tables.
-/
import Derived.Test.YtmngppcmhfhgaaaGreatDoorTiRow
import Derived.Test.YtmngppcmhfhgaaaGreatDoorTiFacts
import Derived.Test.YtmngppcmhfhgaaaGreatDoorTie
set_option maxHeartbeats 8000000
set_option maxRecDepth 20000
namespace Go.Proofs.YtmngppcmhfhgaaaGreatDoor.finishTies
open Go.Ab Go.Ab.Ch5 Go.ChangeShapes Go.WideShapes Go.ChangeAt Go.RowKit
theorem said:Rows.FinishTiesSaid:=
 OpenClaim.holds_of_cond 9 Tryz.f9 rfl rfl rfl rfl rfl rfl rfl ⟨rfl,rfl,rfl,rfl,rfl⟩ rfl rfl rfl rfl rfl named Tryz.func9 closed
  (of_decide_eq_true (by kernel_rfl)) (by unfold Func.isWrapper;first|(rw[if_pos (by decide +kernel)];kernel_rfl)|(rw[if_neg (by decide +kernel)];exact⟨rfl,rfl⟩))
  (fun os started H enc _ F=>by rw[OpenClaim.pre_eq_preRow];exact lifted os started H enc F)
theorem card:Rows.FinishTiesCardSaid:=
 Claim7.holds_tied_plain_at .later [] _ _ _ _ said (fun _ h=>by cases h) wfText (fun _ h=>by cases h) finishTies_row_tie rfl ⟨rfl,rfl⟩ mainIs rfl plain goesF
#print axioms card
end Go.Proofs.YtmngppcmhfhgaaaGreatDoor.finishTies
