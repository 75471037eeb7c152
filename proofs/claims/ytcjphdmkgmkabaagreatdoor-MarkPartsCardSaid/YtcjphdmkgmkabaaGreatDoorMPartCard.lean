/-
  Own work: MarkParts: names, quotients of machine integers, integer parts and roots are those of the reference, for all texts and machine integers: the card; no condition but the laid tables.
-/
import Derived.Test.YtcjphdmkgmkabaaGreatDoorMPartRow
import Derived.Test.YtcjphdmkgmkabaaGreatDoorMPartFacts
import Derived.Test.YtcjphdmkgmkabaaGreatDoorTie
set_option maxHeartbeats 8000000
set_option maxRecDepth 20000
namespace Go.Proofs.YtcjphdmkgmkabaaGreatDoor.markParts
open Go.Ab Go.Ab.Ch1 Go.ChangeShapes Go.WideShapes Go.ChangeAt Go.RowKit
theorem said:Rows.MarkPartsSaid:=
 OpenClaim.holds_of_cond 15 Tryz.f15 rfl rfl rfl rfl rfl rfl rfl ⟨rfl,rfl,rfl,rfl,rfl⟩ rfl rfl rfl rfl rfl named Tryz.func15 closed
  (of_decide_eq_true (by kernel_rfl)) (by unfold Func.isWrapper;first|(rw[if_pos (by decide +kernel)];kernel_rfl)|(rw[if_neg (by decide +kernel)];exact⟨rfl,rfl⟩))
  (fun os started H enc _ F=>by rw[OpenClaim.pre_eq_preRow];exact lifted os started H enc F)
theorem card:Rows.MarkPartsCardSaid:=
 Claim7.holds_tied_plain_at .later [] _ _ _ _ said (fun _ h=>by cases h) wfText (fun _ h=>by cases h) markParts_row_tie rfl ⟨rfl,rfl⟩ mainIs rfl plain goesF
#print axioms card
end Go.Proofs.YtcjphdmkgmkabaaGreatDoor.markParts
