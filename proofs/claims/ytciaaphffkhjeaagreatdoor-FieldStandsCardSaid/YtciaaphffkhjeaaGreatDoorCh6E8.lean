/-
  Own work: pieces of the evaluation of the fixed examples.
-/
import Derived.Test.YtciaaphffkhjeaaGreatDoorCh6E7
namespace Go.Ab.Ch6
set_option maxRecDepth 1000000
def e48:EntH:=⟨10,[],[],⟨.bool true,[],[]⟩⟩
def T48:List EntH:=e47::T47
theorem h48:Shown T48 e48:=by
 show _=_
 kernel_rfl
end Go.Ab.Ch6
