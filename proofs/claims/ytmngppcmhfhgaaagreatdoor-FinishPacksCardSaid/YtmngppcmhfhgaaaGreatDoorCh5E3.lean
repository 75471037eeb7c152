/-
  Own work: pieces of the evaluation of the fixed examples.
-/
import Derived.Test.YtmngppcmhfhgaaaGreatDoorCh5E2
namespace Go.Ab.Ch5
set_option maxRecDepth 1000000
def e15 : EntH := ⟨24, [.agg [.int .i64 (3), .sl 2 0 6 1 (some 6)], .agg [.str [49, 48, 48, 48, 48, 48], .str [53]], .str [65]], [none, none, some (.cells [.str [46, 46, 46], .str [46, 97, 46], .str [97, 65, 46], .str [46, 65, 98], .str [46, 66, 66], .str [46, 66, 66]] 9), none, none, none, none, none, none, none, none, none, none, none, none, none, none, none, none, none, none, none, none, none, none, none, none, none, none, none, none, none, none, none, none, none], ⟨.tup [.agg [.str [49, 48, 48, 48, 49, 48], .str [49, 48, 48, 48, 49, 53]], .int .i64 (0)], [none, none, some (.cells [.str [46, 46, 46], .str [46, 97, 46], .str [97, 65, 46], .str [46, 65, 98], .str [46, 66, 66], .str [46, 66, 66]] 9), none, none, none, none, none, none, none, none, none, none, none, none, none, none, none, none, none, none, none, none, none, none, none, none, none, none, none, none, none, none, none, none, none], []⟩⟩
def T15 : List EntH := [e0, e1, e2, e3, e4, e5, e6, e7, e8, e9, e10, e11, e12, e13, e14]
theorem h15 : Shown T15 e15 := by
  show _ = _
  kernel_rfl
def e16 : EntH := ⟨216, [.str [49, 48, 48, 48, 49, 48]], [none, none, none, none, none, none, none, none, none, none, none, none, none, none, none, none, none, none, none, none, none, none, none, none, none, none, none, none, none, none, none, none, none, none, none, none, none, none, none, none, none, none, none], ⟨.agg [.int .i64 (100010), .nilsl], [none, none, none, none, none, none, none, none, none, none, none, none, none, none, none, none, none, none, none, none, none, none, none, none, none, none, none, none, none, none, none, none, none, none, none, none, none, none, none, none, none, none, none], []⟩⟩
def T16 : List EntH := [e0, e1, e2, e3, e4, e5, e6, e7, e8, e9, e10, e11, e12, e13, e14, e15]
theorem h16 : Shown T16 e16 := by
  show _ = _
  kernel_rfl
def e17 : EntH := ⟨216, [.str [49, 48, 48, 48, 49, 53]], [none, none, none, none, none, none, none, none, none, none, none, none, none, none, none, none, none, none, none, none, none, none, none, none, none, none, none, none, none, none, none, none, none, none, none, none, none, none, none, none, none, none, none], ⟨.agg [.int .i64 (100015), .nilsl], [none, none, none, none, none, none, none, none, none, none, none, none, none, none, none, none, none, none, none, none, none, none, none, none, none, none, none, none, none, none, none, none, none, none, none, none, none, none, none, none, none, none, none], []⟩⟩
def T17 : List EntH := [e0, e1, e2, e3, e4, e5, e6, e7, e8, e9, e10, e11, e12, e13, e14, e15, e16]
theorem h17 : Shown T17 e17 := by
  show _ = _
  kernel_rfl
def e18 : EntH := ⟨107, [.agg [.str [49, 48, 48, 48, 49, 48], .str [49, 48, 48, 48, 49, 53]]], [none, none, none, none, none, none, none, none, none, none, none, none, none, none, none, none, none, none, none, none, none, none, none, none, none, none, none, none, none, none, none, none, none, none, none, none, none, none, none], ⟨.tup [.agg [.int .i64 (100010), .nilsl, .int .i64 (1), .nilsl, .int .i64 (100015), .nilsl, .int .i64 (1), .nilsl], .int .i64 (0)], [none, none, none, none, none, none, none, none, none, none, none, none, none, none, none, none, none, none, none, none, none, none, none, none, none, none, none, none, none, none, none, none, none, none, none, none, none, none, none], []⟩⟩
def T18 : List EntH := [e0, e1, e2, e3, e4, e5, e6, e7, e8, e9, e10, e11, e12, e13, e14, e15, e16, e17]
theorem h18 : Shown T18 e18 := by
  show _ = _
  kernel_rfl
def e19 : EntH := ⟨144, [.agg [.int .i64 (50), .nilsl, .int .i64 (1), .nilsl], .agg [.int .i64 (10), .nilsl, .int .i64 (1), .nilsl]], [none, none, none, none, none, none, none, none, none, none, none, none, none, none, none, none, none, none, none, none, none, none, none, none, none, none, none, none, none, none, none, none, none, none, none, none, none, none, none, none, none, none, none], ⟨.agg [.int .i64 (5), .nilsl, .int .i64 (1), .nilsl], [none, none, none, none, none, none, none, none, none, none, none, none, none, none, none, none, none, none, none, none, none, none, none, none, none, none, none, none, none, none, none, none, none, none, none, none, none, none, none, none, none, none, none], []⟩⟩
def T19 : List EntH := [e0, e1, e2, e3, e4, e5, e6, e7, e8, e9, e10, e11, e12, e13, e14, e15, e16, e17, e18]
theorem h19 : Shown T19 e19 := by
  show _ = _
  kernel_rfl
end Go.Ab.Ch5

