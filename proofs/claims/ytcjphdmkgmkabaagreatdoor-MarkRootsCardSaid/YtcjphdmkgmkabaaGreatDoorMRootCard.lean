/-
  Own work: MarkRoots: roots and shares have the properties of chapter 1, for all numbers, totals and weights: the card; no condition but the laid tables.
-/
import Derived.Test.YtcjphdmkgmkabaaGreatDoorMRootRow
import Derived.Test.YtcjphdmkgmkabaaGreatDoorMRootFacts
import Derived.Test.YtcjphdmkgmkabaaGreatDoorTie
set_option maxHeartbeats 8000000
set_option maxRecDepth 20000
namespace Go.Proofs.YtcjphdmkgmkabaaGreatDoor.markRoots
open Go.Ab Go.Ab.Ch1 Go.ChangeShapes Go.WideShapes Go.ChangeAt Go.RowKit
theorem said:Rows.MarkRootsSaid:=
 OpenClaim.holds_of_cond 8 Tryz.f8 rfl rfl rfl rfl rfl rfl rfl ⟨rfl,rfl,rfl,rfl,rfl⟩ rfl rfl rfl rfl rfl named Tryz.func8 closed
  (of_decide_eq_true (by kernel_rfl)) (by unfold Func.isWrapper;first|(rw[if_pos (by decide +kernel)];kernel_rfl)|(rw[if_neg (by decide +kernel)];exact⟨rfl,rfl⟩))
  (fun os started H enc _ F=>by rw[OpenClaim.pre_eq_preRow];exact lifted os started H enc F)
theorem card:Rows.MarkRootsCardSaid:=
 Claim7.holds_tied_plain_at .later [] _ _ _ _ said (fun _ h=>by cases h) wfText (fun _ h=>by cases h) markRoots_row_tie rfl ⟨rfl,rfl⟩ mainIs rfl plain goesF
#print axioms card
end Go.Proofs.YtcjphdmkgmkabaaGreatDoor.markRoots
