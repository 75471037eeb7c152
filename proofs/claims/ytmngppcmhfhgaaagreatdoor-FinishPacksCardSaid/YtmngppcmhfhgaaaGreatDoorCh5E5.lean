/-
  Own work: pieces of the evaluation of the fixed examples.
-/
import Derived.Test.YtmngppcmhfhgaaaGreatDoorCh5E4
namespace Go.Ab.Ch5
set_option maxRecDepth 1000000
def e25 : EntH := ⟨216, [.str [49, 48, 48, 48, 48, 48]], [none, none, none, none, none, none, none, none, none, none, none, none, none, none, none, none, none, none, none, none, none, none, none, none, none, none, none, none, none, none, none, none, none, none, none, none, none, none, none, none, none, none, none, none, none, none, none, none, none, none], ⟨.agg [.int .i64 (100000), .nilsl], [none, none, none, none, none, none, none, none, none, none, none, none, none, none, none, none, none, none, none, none, none, none, none, none, none, none, none, none, none, none, none, none, none, none, none, none, none, none, none, none, none, none, none, none, none, none, none, none, none, none], []⟩⟩
def T25 : List EntH := [e0, e1, e2, e3, e4, e5, e6, e7, e8, e9, e10, e11, e12, e13, e14, e15, e16, e17, e18, e19, e20, e21, e22, e23, e24]
theorem h25 : Shown T25 e25 := by
  show _ = _
  kernel_rfl
def e26 : EntH := ⟨137, [.str [49, 48, 48, 48, 48, 48], .bool false], [none, none, none, none, none, none, none, none, none, none, none, none, none, none, none, none, none, none, none, none, none, none, none, none, none, none, none, none, none, none, none, none, none, none, none, none, none, none, none, none, none, none, none, none, none, none, none, none, none], ⟨.int .i64 (0), [none, none, none, none, none, none, none, none, none, none, none, none, none, none, none, none, none, none, none, none, none, none, none, none, none, none, none, none, none, none, none, none, none, none, none, none, none, none, none, none, none, none, none, none, none, none, none, none, none], []⟩⟩
def T26 : List EntH := [e0, e1, e2, e3, e4, e5, e6, e7, e8, e9, e10, e11, e12, e13, e14, e15, e16, e17, e18, e19, e20, e21, e22, e23, e24, e25]
theorem h26 : Shown T26 e26 := by
  show _ = _
  kernel_rfl
def e27 : EntH := ⟨137, [.str [53], .bool true], [none, none, none, none, none, none, none, none, none, none, none, none, none, none, none, none, none, none, none, none, none, none, none, none, none, none, none, none, none, none, none, none, none, none, none, none, none, none, none, none, none, none, none, none, none, none, none, none, none], ⟨.int .i64 (0), [none, none, none, none, none, none, none, none, none, none, none, none, none, none, none, none, none, none, none, none, none, none, none, none, none, none, none, none, none, none, none, none, none, none, none, none, none, none, none, none, none, none, none, none, none, none, none, none, none], []⟩⟩
def T27 : List EntH := [e0, e1, e2, e3, e4, e5, e6, e7, e8, e9, e10, e11, e12, e13, e14, e15, e16, e17, e18, e19, e20, e21, e22, e23, e24, e25, e26]
theorem h27 : Shown T27 e27 := by
  show _ = _
  kernel_rfl
def e28 : EntH := ⟨62, [.sl 40 0 3 2 (some 3), .int .i64 (0)], [none, none, none, none, none, none, none, none, none, none, none, none, none, none, none, none, none, none, none, none, none, none, none, none, none, none, none, none, none, none, none, none, none, none, none, none, none, none, none, none, some (.cells [.int .i64 (0), .int .i64 (100000), .int .i64 (4), .int .i64 (100021), .int .i64 (10), .int .i64 (100050)] 127)], ⟨.tup [.agg [.str [], .str []], .int .i64 (29)], [none, none, none, none, none, none, none, none, none, none, none, none, none, none, none, none, none, none, none, none, none, none, none, none, none, none, none, none, none, none, none, none, none, none, none, none, none, none, none, none, some (.cells [.int .i64 (0), .int .i64 (100000), .int .i64 (4), .int .i64 (100021), .int .i64 (10), .int .i64 (100050)] 127)], []⟩⟩
def T28 : List EntH := [e0, e1, e2, e3, e4, e5, e6, e7, e8, e9, e10, e11, e12, e13, e14, e15, e16, e17, e18, e19, e20, e21, e22, e23, e24, e25, e26, e27]
theorem h28 : Shown T28 e28 := by
  show _ = _
  kernel_rfl
def e29 : EntH := ⟨70, [.agg [.int .i64 (3), .sl 2 0 6 1 (some 6)]], [none, none, some (.cells [.str [46, 46, 46], .str [46, 97, 46], .str [97, 65, 46], .str [46, 65, 98], .str [46, 66, 66], .str [46, 66, 66]] 9), none, none, none, none, none, none, none, none, none, none, none, none, none, none, none, none, none, none, none, none, none, none, none, none, none, none, none, none, none, none, none, none, none, none, none, none, none, none, none, none, none], ⟨.int .i64 (0), [none, none, some (.cells [.str [46, 46, 46], .str [46, 97, 46], .str [97, 65, 46], .str [46, 65, 98], .str [46, 66, 66], .str [46, 66, 66]] 9), none, none, none, none, none, none, none, none, none, none, none, none, none, none, none, none, none, none, none, none, none, none, none, none, none, none, none, none, none, none, none, none, none, none, none, none, none, none, none, none, none], []⟩⟩
def T29 : List EntH := [e0, e1, e2, e3, e4, e5, e6, e7, e8, e9, e10, e11, e12, e13, e14, e15, e16, e17, e18, e19, e20, e21, e22, e23, e24, e25, e26, e27, e28]
theorem h29 : Shown T29 e29 := by
  show _ = _
  kernel_rfl
end Go.Ab.Ch5

