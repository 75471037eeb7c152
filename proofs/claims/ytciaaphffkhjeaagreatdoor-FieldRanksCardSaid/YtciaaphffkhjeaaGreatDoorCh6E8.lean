/-
  Own work: pieces of the evaluation of the fixed examples.
-/
import Derived.Test.YtciaaphffkhjeaaGreatDoorCh6E7
namespace Go.Ab.Ch6
set_option maxRecDepth 1000000
def e48 : EntH := ⟨10, [], [], ⟨.bool true, [], []⟩⟩
def T48 : List EntH := [e0, e1, e2, e3, e4, e5, e6, e7, e8, e9, e10, e11, e12, e13, e14, e15, e16, e17, e18, e19, e20, e21, e22, e23, e24, e25, e26, e27, e28, e29, e30, e31, e32, e33, e34, e35, e36, e37, e38, e39, e40, e41, e42, e43, e44, e45, e46, e47]
theorem h48 : Shown T48 e48 := by
  show _ = _
  kernel_rfl
end Go.Ab.Ch6
