import Derived.Test.YtcjphdmkgmkabaaGreatDoorMEquRow
import Derived.Test.YtcjphdmkgmkabaaGreatDoorMEquFacts
import Derived.Test.YtcjphdmkgmkabaaGreatDoorTie
set_option maxHeartbeats 8000000
set_option maxRecDepth 20000
namespace Go.Proofs.YtcjphdmkgmkabaaGreatDoor.markEquations
open Go.Ab Go.Ab.Ch1 Go.ChangeShapes Go.WideShapes Go.ChangeAt Go.RowKit
theorem said:Rows.MarkEquationsSaid:=
 OpenClaim.holds_of_cond 4 Tryz.f4 rfl rfl rfl rfl rfl rfl rfl ⟨rfl,rfl,rfl,rfl,rfl⟩ rfl rfl rfl rfl rfl named Tryz.func4 closed
  (of_decide_eq_true (by kernel_rfl)) (by unfold Func.isWrapper;first|(rw[if_pos (by decide +kernel)];kernel_rfl)|(rw[if_neg (by decide +kernel)];exact⟨rfl,rfl⟩))
  (fun os started H enc _ F=>by rw[OpenClaim.pre_eq_preRow];exact lifted os started H enc F)
theorem card:Rows.MarkEquationsCardSaid:=
 Claim7.holds_tied_plain_at .later [] _ _ _ _ said (fun _ h=>by cases h) wfText (fun _ h=>by cases h) markEquations_row_tie rfl ⟨rfl,rfl⟩ mainIs rfl plain goesF
#print axioms card
end Go.Proofs.YtcjphdmkgmkabaaGreatDoor.markEquations
