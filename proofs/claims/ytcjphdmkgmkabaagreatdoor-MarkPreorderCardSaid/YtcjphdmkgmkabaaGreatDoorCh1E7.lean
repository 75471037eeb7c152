/-
  Own work: pieces of the evaluation of the fixed examples.
-/
import Derived.Test.YtcjphdmkgmkabaaGreatDoorCh1E6
namespace Go.Ab.Ch1
set_option maxRecDepth 1000000
def e21 : EntH := ⟨49, [.sl 50 0 4 3 (some 4)], [none, none, none, none, none, none, none, none, none, none, none, none, none, none, none, none, none, none, none, none, none, none, none, none, none, none, none, none, none, none, none, none, none, none, none, none, none, none, none, none, none, none, none, none, none, none, none, none, none, none, some (.cells [.str [116, 105, 109, 101], .int .i64 (95800), .str [], .str [110, 111, 110, 101], .int .i64 (0), .str [68, 78, 70], .str [116, 105, 109, 101], .int .i64 (95800), .str [], .str [116, 105, 109, 101], .int .i64 (97200), .str []] 49)], ⟨.tup [.sl 60 0 4 1 (some 4), .int .i64 (0)], [none, none, none, none, none, none, none, none, none, none, none, none, none, none, none, none, none, none, none, none, none, none, none, none, none, none, none, none, none, none, none, none, none, none, none, none, none, none, none, none, none, none, none, none, none, none, none, none, none, none, some (.cells [.str [116, 105, 109, 101], .int .i64 (95800), .str [], .str [110, 111, 110, 101], .int .i64 (0), .str [68, 78, 70], .str [116, 105, 109, 101], .int .i64 (95800), .str [], .str [116, 105, 109, 101], .int .i64 (97200), .str []] 49), some (.cells [.str [116, 105, 109, 101], .int .i64 (97200), .str []] 49), some (.cells [.str [116, 105, 109, 101], .int .i64 (95800), .str []] 49), some (.cells [.int .i64 (0), .int .i64 (0)] 25), some (.cells [.str [110, 111, 110, 101], .int .i64 (0), .str [68, 78, 70]] 49), some (.cells [.int .i64 (0), .int .i64 (0)] 25), some (.cells [.str [116, 105, 109, 101], .int .i64 (95800), .str []] 49), some (.cells [.int .i64 (0), .int .i64 (0)] 25), some (.cells [.str [116, 105, 109, 101], .int .i64 (97200), .str []] 49), some (.cells [.int .i64 (0), .int .i64 (0)] 25), some (.cells [.int .i64 (1), .int .i64 (0), .int .i64 (1), .int .i64 (3)] 3), some (.cells [] 49), some (.cells [.str [116, 105, 109, 101], .int .i64 (95800), .str [], .str [116, 105, 109, 101], .int .i64 (95800), .str [], .str [116, 105, 109, 101], .int .i64 (97200), .str [], .str [110, 111, 110, 101], .int .i64 (0), .str [68, 78, 70]] 49), some (.cells [.str [116, 105, 109, 101], .int .i64 (95800), .str []] 49), some (.cells [.str [110, 111, 110, 101], .int .i64 (0), .str [68, 78, 70]] 49), some (.cells [.str [116, 105, 109, 101], .int .i64 (95800), .str []] 49), some (.cells [.str [116, 105, 109, 101], .int .i64 (97200), .str []] 49)], []⟩⟩
def T21 : List EntH := [e0, e1, e2, e3, e4, e5, e6, e7, e8, e9, e10, e11, e12, e13, e14, e15, e16, e17, e18, e19, e20]
theorem h21 : Shown T21 e21 := by
  show _ = _
  kernel_rfl
def e22 : EntH := ⟨18, [], [], ⟨.bool true, [], []⟩⟩
def T22 : List EntH := [e0, e1, e2, e3, e4, e5, e6, e7, e8, e9, e10, e11, e12, e13, e14, e15, e16, e17, e18, e19, e20, e21]
theorem h22 : Shown T22 e22 := by
  show _ = _
  kernel_rfl
end Go.Ab.Ch1

