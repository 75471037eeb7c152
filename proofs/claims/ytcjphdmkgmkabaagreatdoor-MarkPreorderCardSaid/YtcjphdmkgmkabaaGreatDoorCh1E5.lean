/-
  Own work: pieces of the evaluation of the fixed examples.
-/
import Derived.Test.YtcjphdmkgmkabaaGreatDoorCh1E4
namespace Go.Ab.Ch1
set_option maxRecDepth 1000000
def e15 : EntH := ⟨150, [.agg [.int .i64 (-2), .nilsl, .int .i64 (1), .nilsl], .agg [.int .i64 (-2), .nilsl, .int .i64 (1), .nilsl]], [none, none, none, none, none, none, none, none, none, none, none, none, none, none, none, none, none, none, none, none, none, none, none, none, none, none, none, none, none, none, none, none, none, none, none, none, none, none, none, none, none, none, none], ⟨.agg [.int .i64 (1), .nilsl, .int .i64 (1), .nilsl], [none, none, none, none, none, none, none, none, none, none, none, none, none, none, none, none, none, none, none, none, none, none, none, none, none, none, none, none, none, none, none, none, none, none, none, none, none, none, none, none, none, none, none], []⟩⟩
def T15 : List EntH := [e0, e1, e2, e3, e4, e5, e6, e7, e8, e9, e10, e11, e12, e13, e14]
theorem h15 : Shown T15 e15 := by
  show _ = _
  kernel_rfl
def e16 : EntH := ⟨104, [.sl 33 0 2 1 none], [none, none, none, none, none, none, none, none, none, none, none, none, none, none, none, none, none, none, none, none, none, none, none, none, none, none, none, none, none, none, none, none, none, some (.cells [.sl 36 0 3 4 none, .sl 38 0 3 4 none] 127), none, none, some (.cells [.int .i64 (1), .nilsl, .int .i64 (1), .nilsl, .int .i64 (1), .nilsl, .int .i64 (1), .nilsl, .int .i64 (3), .nilsl, .int .i64 (1), .nilsl] 133), none, some (.cells [.int .i64 (1), .nilsl, .int .i64 (1), .nilsl, .int .i64 (-1), .nilsl, .int .i64 (1), .nilsl, .int .i64 (1), .nilsl, .int .i64 (1), .nilsl] 133)], ⟨.bool true, [none, none, none, none, none, none, none, none, none, none, none, none, none, none, none, none, none, none, none, none, none, none, none, none, none, none, none, none, none, none, none, none, none, some (.cells [.sl 36 0 3 4 none, .sl 38 0 3 4 none] 127), none, none, some (.cells [.int .i64 (1), .nilsl, .int .i64 (1), .nilsl, .int .i64 (0), .nilsl, .int .i64 (1), .nilsl, .int .i64 (2), .nilsl, .int .i64 (1), .nilsl] 133), none, some (.cells [.int .i64 (0), .nilsl, .int .i64 (1), .nilsl, .int .i64 (1), .nilsl, .int .i64 (1), .nilsl, .int .i64 (1), .nilsl, .int .i64 (1), .nilsl] 133)], [36, 36, 36, 38, 38, 38, 33, 33, 38, 38, 38, 36, 36, 36, 33, 33]⟩⟩
def T16 : List EntH := [e0, e1, e2, e3, e4, e5, e6, e7, e8, e9, e10, e11, e12, e13, e14, e15]
theorem h16 : Shown T16 e16 := by
  show _ = _
  kernel_rfl
def e17 : EntH := ⟨30, [.sl 23 0 2 1 (some 2), .sl 24 0 2 1 (some 2)], [none, none, none, none, none, none, none, none, none, none, none, none, none, none, none, none, none, none, none, none, none, some (.cells [.str [49], .str [49]] 75), some (.cells [.str [49], .str [45, 49]] 75), some (.cells [.sl 21 0 2 1 (some 2), .sl 22 0 2 1 (some 2)] 38), some (.cells [.str [51], .str [49]] 75)], ⟨.tup [.sl 42 0 2 1 none, .int .i64 (0)], [none, none, none, none, none, none, none, none, none, none, none, none, none, none, none, none, none, none, none, none, none, some (.cells [.str [49], .str [49]] 75), some (.cells [.str [49], .str [45, 49]] 75), some (.cells [.sl 21 0 2 1 (some 2), .sl 22 0 2 1 (some 2)] 38), some (.cells [.str [51], .str [49]] 75), some (.cells [.int .i64 (0), .int .i64 (0)] 25), some (.cells [.int .i64 (0), .int .i64 (0)] 25), some (.cells [.int .i64 (1), .nilsl, .int .i64 (1), .nilsl, .int .i64 (1), .nilsl, .int .i64 (1), .nilsl] 133), some (.cells [.sl 27 0 2 4 (some 2)] 127), none, some (.cells [.int .i64 (0), .int .i64 (0)] 25), some (.cells [.int .i64 (1), .nilsl, .int .i64 (1), .nilsl, .int .i64 (-1), .nilsl, .int .i64 (1), .nilsl] 133), some (.cells [.sl 31 0 2 4 (some 2)] 127), some (.cells [.sl 36 0 3 4 none, .sl 38 0 3 4 none] 127), some (.cells [.int .i64 (0), .int .i64 (0)] 25), some (.cells [.int .i64 (3), .nilsl, .int .i64 (1), .nilsl] 133), some (.cells [.int .i64 (1), .nilsl, .int .i64 (1), .nilsl, .int .i64 (0), .nilsl, .int .i64 (1), .nilsl, .int .i64 (2), .nilsl, .int .i64 (1), .nilsl] 133), some (.cells [.int .i64 (1), .nilsl, .int .i64 (1), .nilsl] 133), some (.cells [.int .i64 (0), .nilsl, .int .i64 (1), .nilsl, .int .i64 (1), .nilsl, .int .i64 (1), .nilsl, .int .i64 (1), .nilsl, .int .i64 (1), .nilsl] 133), some (.cells [.str [50]] 75), none, some (.cells [.str [49]] 75), some (.cells [.str [50], .str [49]] 75)], []⟩⟩
def T17 : List EntH := [e0, e1, e2, e3, e4, e5, e6, e7, e8, e9, e10, e11, e12, e13, e14, e15, e16]
theorem h17 : Shown T17 e17 := by
  show _ = _
  kernel_rfl
end Go.Ab.Ch1

