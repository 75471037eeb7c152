/-
  Own work: pieces of the evaluation of the fixed examples.
-/
import Derived.Test.YtmngppcmhfhgaaaGreatDoorCh5E1
namespace Go.Ab.Ch5
set_option maxRecDepth 1000000
def e10 : EntH := ⟨216, [.str [49, 48, 48, 48, 48, 48]], [none, none, none, none, none, none, none, none, none, none, none, none, none, none, none, none, none, none, none, none, none, none, none, none, none, none, none, none, none, none, none, none, none, none, none, none, none, none, none, none, none], ⟨.agg [.int .i64 (100000), .nilsl], [none, none, none, none, none, none, none, none, none, none, none, none, none, none, none, none, none, none, none, none, none, none, none, none, none, none, none, none, none, none, none, none, none, none, none, none, none, none, none, none, none], []⟩⟩
def T10 : List EntH := [e0, e1, e2, e3, e4, e5, e6, e7, e8, e9]
theorem h10 : Shown T10 e10 := by
  show _ = _
  kernel_rfl
def e11 : EntH := ⟨137, [.str [49, 48, 48, 48, 48, 48], .bool false], [none, none, none, none, none, none, none, none, none, none, none, none, none, none, none, none, none, none, none, none, none, none, none, none, none, none, none, none, none, none, none, none, none, none, none, none, none, none, none, none], ⟨.int .i64 (0), [none, none, none, none, none, none, none, none, none, none, none, none, none, none, none, none, none, none, none, none, none, none, none, none, none, none, none, none, none, none, none, none, none, none, none, none, none, none, none, none], []⟩⟩
def T11 : List EntH := [e0, e1, e2, e3, e4, e5, e6, e7, e8, e9, e10]
theorem h11 : Shown T11 e11 := by
  show _ = _
  kernel_rfl
def e12 : EntH := ⟨137, [.str [53], .bool true], [none, none, none, none, none, none, none, none, none, none, none, none, none, none, none, none, none, none, none, none, none, none, none, none, none, none, none, none, none, none, none, none, none, none, none, none, none, none, none, none], ⟨.int .i64 (0), [none, none, none, none, none, none, none, none, none, none, none, none, none, none, none, none, none, none, none, none, none, none, none, none, none, none, none, none, none, none, none, none, none, none, none, none, none, none, none, none], []⟩⟩
def T12 : List EntH := [e0, e1, e2, e3, e4, e5, e6, e7, e8, e9, e10, e11]
theorem h12 : Shown T12 e12 := by
  show _ = _
  kernel_rfl
def e13 : EntH := ⟨216, [.str [49, 48, 48, 48, 48, 48]], [none, none, none, none, none, none, none, none, none, none, none, none, none, none, none, none, none, none, none, none, none, none, none, none, none, none, none, none, none, none, none, none, none, none, none, none, none, none, none, none, none, none, none], ⟨.agg [.int .i64 (100000), .nilsl], [none, none, none, none, none, none, none, none, none, none, none, none, none, none, none, none, none, none, none, none, none, none, none, none, none, none, none, none, none, none, none, none, none, none, none, none, none, none, none, none, none, none, none], []⟩⟩
def T13 : List EntH := [e0, e1, e2, e3, e4, e5, e6, e7, e8, e9, e10, e11, e12]
theorem h13 : Shown T13 e13 := by
  show _ = _
  kernel_rfl
def e14 : EntH := ⟨100, [.agg [.int .i64 (100000), .nilsl, .int .i64 (1), .nilsl, .int .i64 (5), .nilsl, .int .i64 (1), .nilsl], .int .i64 (2)], [none, none, none, none, none, none, none, none, none, none, none, none, none, none, none, none, none, none, none, none, none, none, none, none, none, none, none, none, none, none, none, none, none, none, none, none, none, none, none, none], ⟨.agg [.int .i64 (100010), .nilsl, .int .i64 (1), .nilsl, .int .i64 (100015), .nilsl, .int .i64 (1), .nilsl], [none, none, none, none, none, none, none, none, none, none, none, none, none, none, none, none, none, none, none, none, none, none, none, none, none, none, none, none, none, none, none, none, none, none, none, none, none, none, none, none], []⟩⟩
def T14 : List EntH := [e0, e1, e2, e3, e4, e5, e6, e7, e8, e9, e10, e11, e12, e13]
theorem h14 : Shown T14 e14 := by
  show _ = _
  kernel_rfl
end Go.Ab.Ch5

