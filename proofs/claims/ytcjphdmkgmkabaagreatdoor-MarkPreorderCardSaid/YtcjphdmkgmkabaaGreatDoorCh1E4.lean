/-
  Own work: pieces of the evaluation of the fixed examples.
-/
import Derived.Test.YtcjphdmkgmkabaaGreatDoorCh1E3
namespace Go.Ab.Ch1
set_option maxRecDepth 1000000
def e12 : EntH := ⟨102, [.sl 22 0 2 1 (some 2)], [none, none, none, none, none, none, none, none, none, none, none, none, none, none, none, none, none, none, none, none, none, none, some (.cells [.str [49], .str [45, 49]] 75), none, none, none, none, none, none, none, none], ⟨.sl 31 0 2 4 (some 2), [none, none, none, none, none, none, none, none, none, none, none, none, none, none, none, none, none, none, none, none, none, none, some (.cells [.str [49], .str [45, 49]] 75), none, none, none, none, none, none, none, none, some (.cells [.int .i64 (1), .nilsl, .int .i64 (1), .nilsl, .int .i64 (-1), .nilsl, .int .i64 (1), .nilsl] 133)], []⟩⟩
def T12 : List EntH := [e0, e1, e2, e3, e4, e5, e6, e7, e8, e9, e10, e11]
theorem h12 : Shown T12 e12 := by
  show _ = _
  kernel_rfl
def e13 : EntH := ⟨101, [.sl 24 0 2 1 (some 2)], [none, none, none, none, none, none, none, none, none, none, none, none, none, none, none, none, none, none, none, none, none, none, none, none, some (.cells [.str [51], .str [49]] 75), none, none, none, none, none, none, none, none, none], ⟨.int .i64 (0), [none, none, none, none, none, none, none, none, none, none, none, none, none, none, none, none, none, none, none, none, none, none, none, none, some (.cells [.str [51], .str [49]] 75), none, none, none, none, none, none, none, none, none], []⟩⟩
def T13 : List EntH := [e0, e1, e2, e3, e4, e5, e6, e7, e8, e9, e10, e11, e12]
theorem h13 : Shown T13 e13 := by
  show _ = _
  kernel_rfl
def e14 : EntH := ⟨150, [.agg [.int .i64 (0), .nilsl, .int .i64 (1), .nilsl], .agg [.int .i64 (-2), .nilsl, .int .i64 (1), .nilsl]], [none, none, none, none, none, none, none, none, none, none, none, none, none, none, none, none, none, none, none, none, none, none, none, none, none, none, none, none, none, none, none, none, none, none, none, none, none, none, none, none, none, none, none], ⟨.agg [.int .i64 (0), .nilsl, .int .i64 (1), .nilsl], [none, none, none, none, none, none, none, none, none, none, none, none, none, none, none, none, none, none, none, none, none, none, none, none, none, none, none, none, none, none, none, none, none, none, none, none, none, none, none, none, none, none, none], []⟩⟩
def T14 : List EntH := [e0, e1, e2, e3, e4, e5, e6, e7, e8, e9, e10, e11, e12, e13]
theorem h14 : Shown T14 e14 := by
  show _ = _
  kernel_rfl
end Go.Ab.Ch1

