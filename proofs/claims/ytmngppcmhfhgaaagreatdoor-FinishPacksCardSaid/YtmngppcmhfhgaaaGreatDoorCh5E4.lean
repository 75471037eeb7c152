/-
  Own work: pieces of the evaluation of the fixed examples.
-/
import Derived.Test.YtmngppcmhfhgaaaGreatDoorCh5E3
namespace Go.Ab.Ch5
set_option maxRecDepth 1000000
def e20 : EntH := ⟨216, [.str [49, 48, 48, 48, 48, 48]], [none, none, none, none, none, none, none, none, none, none, none, none, none, none, none, none, none, none, none, none, none, none, none, none, none, none, none, none, none, none, none, none, none, none, none, none, none, none, none, none, none, none, none, none, none, none, none, none], ⟨.agg [.int .i64 (100000), .nilsl], [none, none, none, none, none, none, none, none, none, none, none, none, none, none, none, none, none, none, none, none, none, none, none, none, none, none, none, none, none, none, none, none, none, none, none, none, none, none, none, none, none, none, none, none, none, none, none, none], []⟩⟩
def T20 : List EntH := [e0, e1, e2, e3, e4, e5, e6, e7, e8, e9, e10, e11, e12, e13, e14, e15, e16, e17, e18, e19]
theorem h20 : Shown T20 e20 := by
  show _ = _
  kernel_rfl
def e21 : EntH := ⟨137, [.str [49, 48, 48, 48, 48, 48], .bool false], [none, none, none, none, none, none, none, none, none, none, none, none, none, none, none, none, none, none, none, none, none, none, none, none, none, none, none, none, none, none, none, none, none, none, none, none, none, none, none, none, none, none, none, none, none, none, none], ⟨.int .i64 (0), [none, none, none, none, none, none, none, none, none, none, none, none, none, none, none, none, none, none, none, none, none, none, none, none, none, none, none, none, none, none, none, none, none, none, none, none, none, none, none, none, none, none, none, none, none, none, none], []⟩⟩
def T21 : List EntH := [e0, e1, e2, e3, e4, e5, e6, e7, e8, e9, e10, e11, e12, e13, e14, e15, e16, e17, e18, e19, e20]
theorem h21 : Shown T21 e21 := by
  show _ = _
  kernel_rfl
def e22 : EntH := ⟨137, [.str [53], .bool true], [none, none, none, none, none, none, none, none, none, none, none, none, none, none, none, none, none, none, none, none, none, none, none, none, none, none, none, none, none, none, none, none, none, none, none, none, none, none, none, none, none, none, none, none, none, none, none], ⟨.int .i64 (0), [none, none, none, none, none, none, none, none, none, none, none, none, none, none, none, none, none, none, none, none, none, none, none, none, none, none, none, none, none, none, none, none, none, none, none, none, none, none, none, none, none, none, none, none, none, none, none], []⟩⟩
def T22 : List EntH := [e0, e1, e2, e3, e4, e5, e6, e7, e8, e9, e10, e11, e12, e13, e14, e15, e16, e17, e18, e19, e20, e21]
theorem h22 : Shown T22 e22 := by
  show _ = _
  kernel_rfl
def e23 : EntH := ⟨62, [.sl 38 0 3 2 (some 3), .int .i64 (1)], [none, none, none, none, none, none, none, none, none, none, none, none, none, none, none, none, none, none, none, none, none, none, none, none, none, none, none, none, none, none, none, none, none, none, none, none, none, none, some (.cells [.int .i64 (0), .int .i64 (100000), .int .i64 (4), .int .i64 (100021), .int .i64 (10), .int .i64 (100050)] 127)], ⟨.tup [.agg [.str [49, 48, 48, 48, 48, 48], .str [53]], .int .i64 (0)], [none, none, none, none, none, none, none, none, none, none, none, none, none, none, none, none, none, none, none, none, none, none, none, none, none, none, none, none, none, none, none, none, none, none, none, none, none, none, some (.cells [.int .i64 (0), .int .i64 (100000), .int .i64 (4), .int .i64 (100021), .int .i64 (10), .int .i64 (100050)] 127)], []⟩⟩
def T23 : List EntH := [e0, e1, e2, e3, e4, e5, e6, e7, e8, e9, e10, e11, e12, e13, e14, e15, e16, e17, e18, e19, e20, e21, e22]
theorem h23 : Shown T23 e23 := by
  show _ = _
  kernel_rfl
def e24 : EntH := ⟨144, [.agg [.int .i64 (50), .nilsl, .int .i64 (1), .nilsl], .agg [.int .i64 (10), .nilsl, .int .i64 (1), .nilsl]], [none, none, none, none, none, none, none, none, none, none, none, none, none, none, none, none, none, none, none, none, none, none, none, none, none, none, none, none, none, none, none, none, none, none, none, none, none, none, none, none, none, none, none, none, none], ⟨.agg [.int .i64 (5), .nilsl, .int .i64 (1), .nilsl], [none, none, none, none, none, none, none, none, none, none, none, none, none, none, none, none, none, none, none, none, none, none, none, none, none, none, none, none, none, none, none, none, none, none, none, none, none, none, none, none, none, none, none, none, none], []⟩⟩
def T24 : List EntH := [e0, e1, e2, e3, e4, e5, e6, e7, e8, e9, e10, e11, e12, e13, e14, e15, e16, e17, e18, e19, e20, e21, e22, e23]
theorem h24 : Shown T24 e24 := by
  show _ = _
  kernel_rfl
end Go.Ab.Ch5

