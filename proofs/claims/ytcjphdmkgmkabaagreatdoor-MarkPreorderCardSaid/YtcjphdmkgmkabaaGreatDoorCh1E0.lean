/-
  Own work: pieces of the evaluation of the fixed examples.
-/
import Derived.Test.YtcjphdmkgmkabaaGreatDoorCh1Base
namespace Go.Ab.Ch1
set_option maxRecDepth 1000000
def e0 : EntH := ⟨150, [.agg [.int .i64 (6), .nilsl, .int .i64 (1), .nilsl], .agg [.int .i64 (-4), .nilsl, .int .i64 (1), .nilsl]], [], ⟨.agg [.int .i64 (-3), .nilsl, .int .i64 (2), .nilsl], [], []⟩⟩
def T0 : List EntH := []
theorem h0 : Shown T0 e0 := by
  show _ = _
  kernel_rfl
def e1 : EntH := ⟨84, [.str [45, 51, 47, 50]], [], ⟨.int .i64 (0), [], []⟩⟩
def T1 : List EntH := [e0]
theorem h1 : Shown T1 e1 := by
  show _ = _
  kernel_rfl
def e2 : EntH := ⟨103, [.str [45, 51, 47, 50]], [], ⟨.agg [.int .i64 (-3), .nilsl, .int .i64 (2), .nilsl], [], []⟩⟩
def T2 : List EntH := [e0, e1]
theorem h2 : Shown T2 e2 := by
  show _ = _
  kernel_rfl
end Go.Ab.Ch1

