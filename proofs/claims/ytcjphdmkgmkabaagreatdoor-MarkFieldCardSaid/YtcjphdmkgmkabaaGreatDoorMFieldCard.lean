/-
  Own work: MarkField: the laws of sums, products, differences, quotients, the order and the integer part, for all numbers: the card; no condition but the laid tables.
-/
import Derived.Test.YtcjphdmkgmkabaaGreatDoorMFieldRow
import Derived.Test.YtcjphdmkgmkabaaGreatDoorMFieldFacts
import Derived.Test.YtcjphdmkgmkabaaGreatDoorTie
set_option maxHeartbeats 8000000
namespace Go.Proofs.YtcjphdmkgmkabaaGreatDoor.markField
open Go.Ab Go.Ab.Ch1 Go.ChangeShapes Go.WideShapes Go.ChangeAt Go.RowKit
theorem said:Rows.MarkFieldSaid:=
 OpenClaim.holds_of_cond 17 Tryz.f17 rfl rfl rfl rfl rfl rfl rfl ⟨rfl,rfl,rfl,rfl,rfl⟩ rfl rfl rfl rfl rfl named Tryz.func17 closed
  (of_decide_eq_true (by kernel_rfl)) (by unfold Func.isWrapper;first|(rw[if_pos (by decide +kernel)];kernel_rfl)|(rw[if_neg (by decide +kernel)];exact⟨rfl,rfl⟩))
  (fun os started H enc _ F=>by rw[OpenClaim.pre_eq_preRow];exact lifted os started H enc F)
theorem card:Rows.MarkFieldCardSaid:=
 Claim7.holds_tied_plain_at .later [] _ _ _ _ said (fun _ h=>by cases h) wfText (fun _ h=>by cases h) markField_row_tie rfl ⟨rfl,rfl⟩ mainIs rfl plain goesF
#print axioms card
end Go.Proofs.YtcjphdmkgmkabaaGreatDoor.markField
