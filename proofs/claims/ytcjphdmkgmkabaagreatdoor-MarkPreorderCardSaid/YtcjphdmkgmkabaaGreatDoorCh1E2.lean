/-
  Own work: pieces of the evaluation of the fixed examples.
-/
import Derived.Test.YtcjphdmkgmkabaaGreatDoorCh1E1
namespace Go.Ab.Ch1
set_option maxRecDepth 1000000
def e6 : EntH := ⟨145, [.sl 20 0 3 2 (some 3)], [none, none, none, none, none, none, none, none, none, none, none, none, none, none, none, none, none, none, none, none, some (.cells [.str [48], .str [48], .str [49, 48], .str [53], .str [50, 48], .str [53]] 91)], ⟨.tup [.sl 33 0 3 8 none, .int .i64 (0)], [none, none, none, none, none, none, none, none, none, none, none, none, none, none, none, none, none, none, none, none, some (.cells [.str [48], .str [48], .str [49, 48], .str [53], .str [50, 48], .str [53]] 91), some (.cells [.int .i64 (0), .int .i64 (0)] 25), some (.cells [.str [48], .str [48]] 91), some (.cells [.str [48], .str [48]] 75), some (.cells [.int .i64 (0), .nilsl, .int .i64 (1), .nilsl, .int .i64 (0), .nilsl, .int .i64 (1), .nilsl] 175), none, some (.cells [.str [49, 48], .str [53]] 91), some (.cells [.str [49, 48], .str [53]] 75), some (.cells [.int .i64 (10), .nilsl, .int .i64 (1), .nilsl, .int .i64 (5), .nilsl, .int .i64 (1), .nilsl] 175), none, some (.cells [.str [50, 48], .str [53]] 91), some (.cells [.str [50, 48], .str [53]] 75), some (.cells [.int .i64 (20), .nilsl, .int .i64 (1), .nilsl, .int .i64 (5), .nilsl, .int .i64 (1), .nilsl] 175), some (.cells [.int .i64 (0), .nilsl, .int .i64 (1), .nilsl, .int .i64 (0), .nilsl, .int .i64 (1), .nilsl, .int .i64 (10), .nilsl, .int .i64 (1), .nilsl, .int .i64 (5), .nilsl, .int .i64 (1), .nilsl, .int .i64 (20), .nilsl, .int .i64 (1), .nilsl, .int .i64 (5), .nilsl, .int .i64 (1), .nilsl] 175)], []⟩⟩
def T6 : List EntH := [e0, e1, e2, e3, e4, e5]
theorem h6 : Shown T6 e6 := by
  show _ = _
  kernel_rfl
def e7 : EntH := ⟨150, [.agg [.int .i64 (4), .nilsl, .int .i64 (1), .nilsl], .agg [.int .i64 (10), .nilsl, .int .i64 (1), .nilsl]], [none, none, none, none, none, none, none, none, none, none, none, none, none, none, none, none, none, none, none, none, none, none, none, none, none, none, none, none, none, none, none, none, none, none, none, none, none, none], ⟨.agg [.int .i64 (2), .nilsl, .int .i64 (5), .nilsl], [none, none, none, none, none, none, none, none, none, none, none, none, none, none, none, none, none, none, none, none, none, none, none, none, none, none, none, none, none, none, none, none, none, none, none, none, none, none], []⟩⟩
def T7 : List EntH := [e0, e1, e2, e3, e4, e5, e6]
theorem h7 : Shown T7 e7 := by
  show _ = _
  kernel_rfl
def e8 : EntH := ⟨61, [.sl 20 0 3 2 (some 3), .str [52]], [none, none, none, none, none, none, none, none, none, none, none, none, none, none, none, none, none, none, none, none, some (.cells [.str [48], .str [48], .str [49, 48], .str [53], .str [50, 48], .str [53]] 91)], ⟨.tup [.str [50], .int .i64 (0)], [none, none, none, none, none, none, none, none, none, none, none, none, none, none, none, none, none, none, none, none, some (.cells [.str [48], .str [48], .str [49, 48], .str [53], .str [50, 48], .str [53]] 91)], []⟩⟩
def T8 : List EntH := [e0, e1, e2, e3, e4, e5, e6, e7]
theorem h8 : Shown T8 e8 := by
  show _ = _
  kernel_rfl
end Go.Ab.Ch1

