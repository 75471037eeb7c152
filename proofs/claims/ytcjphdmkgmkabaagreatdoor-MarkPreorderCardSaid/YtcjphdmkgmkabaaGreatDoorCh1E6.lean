/-
  Own work: pieces of the evaluation of the fixed examples.
-/
import Derived.Test.YtcjphdmkgmkabaaGreatDoorCh1E5
namespace Go.Ab.Ch1
set_option maxRecDepth 1000000
def e18 : EntH := ⟨124, [.str [57, 46, 53]], [none, none, none, none, none, none, none, none, none, none, none, none, none, none, none, none, none, none, none, none, none, none, none, none, none, none, none, none, none, none, none, none, none, none, none, none, none, none, none, none, none, none, none, none, none, none, none, none, none], ⟨.tup [.agg [.str [116, 105, 109, 101], .int .i64 (95000), .str []], .int .i64 (0)], [none, none, none, none, none, none, none, none, none, none, none, none, none, none, none, none, none, none, none, none, none, none, none, none, none, none, none, none, none, none, none, none, none, none, none, none, none, none, none, none, none, none, none, none, none, none, none, none, none], []⟩⟩
def T18 : List EntH := [e0, e1, e2, e3, e4, e5, e6, e7, e8, e9, e10, e11, e12, e13, e14, e15, e16, e17]
theorem h18 : Shown T18 e18 := by
  show _ = _
  kernel_rfl
def e19 : EntH := ⟨124, [.str [54, 49, 46, 48, 48]], [none, none, none, none, none, none, none, none, none, none, none, none, none, none, none, none, none, none, none, none, none, none, none, none, none, none, none, none, none, none, none, none, none, none, none, none, none, none, none, none, none, none, none, none, none, none, none, none, none, none], ⟨.tup [.agg [.str [], .int .i64 (0), .str []], .int .i64 (3)], [none, none, none, none, none, none, none, none, none, none, none, none, none, none, none, none, none, none, none, none, none, none, none, none, none, none, none, none, none, none, none, none, none, none, none, none, none, none, none, none, none, none, none, none, none, none, none, none, none, none], []⟩⟩
def T19 : List EntH := [e0, e1, e2, e3, e4, e5, e6, e7, e8, e9, e10, e11, e12, e13, e14, e15, e16, e17, e18]
theorem h19 : Shown T19 e19 := by
  show _ = _
  kernel_rfl
def e20 : EntH := ⟨131, [.sl 62 0 4 3 none, .fn (.func 115) [] []], [none, none, none, none, none, none, none, none, none, none, none, none, none, none, none, none, none, none, none, none, none, none, none, none, none, none, none, none, none, none, none, none, none, none, none, none, none, none, none, none, none, none, none, none, none, none, none, none, none, none, none, none, none, none, none, none, none, none, none, none, none, none, some (.cells [.str [116, 105, 109, 101], .int .i64 (95800), .str [], .str [110, 111, 110, 101], .int .i64 (0), .str [68, 78, 70], .str [116, 105, 109, 101], .int .i64 (95800), .str [], .str [116, 105, 109, 101], .int .i64 (97200), .str []] 49)], ⟨.tup [], [none, none, none, none, none, none, none, none, none, none, none, none, none, none, none, none, none, none, none, none, none, none, none, none, none, none, none, none, none, none, none, none, none, none, none, none, none, none, none, none, none, none, none, none, none, none, none, none, none, none, none, none, none, none, none, none, none, none, none, none, none, none, some (.cells [.str [116, 105, 109, 101], .int .i64 (95800), .str [], .str [116, 105, 109, 101], .int .i64 (95800), .str [], .str [116, 105, 109, 101], .int .i64 (97200), .str [], .str [110, 111, 110, 101], .int .i64 (0), .str [68, 78, 70]] 49)], [62, 62, 62, 62]⟩⟩
def T20 : List EntH := [e0, e1, e2, e3, e4, e5, e6, e7, e8, e9, e10, e11, e12, e13, e14, e15, e16, e17, e18, e19]
theorem h20 : Shown T20 e20 := by
  show _ = _
  kernel_rfl
end Go.Ab.Ch1

