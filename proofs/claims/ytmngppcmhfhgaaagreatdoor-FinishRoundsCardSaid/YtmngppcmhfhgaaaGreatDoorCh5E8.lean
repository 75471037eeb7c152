/-
  Own work: pieces of the evaluation of the fixed examples.
-/
import Derived.Test.YtmngppcmhfhgaaaGreatDoorCh5E7
set_option maxHeartbeats 8000000
set_option maxRecDepth 20000
namespace Go.Ab.Ch5
set_option maxRecDepth 1000000
def Jb:bL:=⟨15,[],[],⟨.bool true,[],[]⟩⟩
def Jc:List bL:=Dp::Dr
theorem Uz:Shown Jc Jb:=by
 show _=_;kernel_rfl
end Go.Ab.Ch5
