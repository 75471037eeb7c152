/-
  Own work: pieces of the evaluation of the fixed examples.
-/
import Derived.Test.YtcjphdmkgmkabaaGreatDoorCh1E2
namespace Go.Ab.Ch1
set_option maxRecDepth 1000000
def e9 : EntH := ⟨101, [.sl 21 0 2 1 (some 2)], [none, none, none, none, none, none, none, none, none, none, none, none, none, none, none, none, none, none, none, none, none, some (.cells [.str [49], .str [49]] 75), none, none, none, none], ⟨.int .i64 (0), [none, none, none, none, none, none, none, none, none, none, none, none, none, none, none, none, none, none, none, none, none, some (.cells [.str [49], .str [49]] 75), none, none, none, none], []⟩⟩
def T9 : List EntH := [e0, e1, e2, e3, e4, e5, e6, e7, e8]
theorem h9 : Shown T9 e9 := by
  show _ = _
  kernel_rfl
def e10 : EntH := ⟨102, [.sl 21 0 2 1 (some 2)], [none, none, none, none, none, none, none, none, none, none, none, none, none, none, none, none, none, none, none, none, none, some (.cells [.str [49], .str [49]] 75), none, none, none, none, none], ⟨.sl 27 0 2 4 (some 2), [none, none, none, none, none, none, none, none, none, none, none, none, none, none, none, none, none, none, none, none, none, some (.cells [.str [49], .str [49]] 75), none, none, none, none, none, some (.cells [.int .i64 (1), .nilsl, .int .i64 (1), .nilsl, .int .i64 (1), .nilsl, .int .i64 (1), .nilsl] 133)], []⟩⟩
def T10 : List EntH := [e0, e1, e2, e3, e4, e5, e6, e7, e8, e9]
theorem h10 : Shown T10 e10 := by
  show _ = _
  kernel_rfl
def e11 : EntH := ⟨101, [.sl 22 0 2 1 (some 2)], [none, none, none, none, none, none, none, none, none, none, none, none, none, none, none, none, none, none, none, none, none, none, some (.cells [.str [49], .str [45, 49]] 75), none, none, none, none, none, none, none], ⟨.int .i64 (0), [none, none, none, none, none, none, none, none, none, none, none, none, none, none, none, none, none, none, none, none, none, none, some (.cells [.str [49], .str [45, 49]] 75), none, none, none, none, none, none, none], []⟩⟩
def T11 : List EntH := [e0, e1, e2, e3, e4, e5, e6, e7, e8, e9, e10]
theorem h11 : Shown T11 e11 := by
  show _ = _
  kernel_rfl
end Go.Ab.Ch1

