/-
  Own work: pieces of the evaluation of the fixed examples.
-/
import Derived.Test.YtmngppcmhfhgaaaGreatDoorCh5E0
namespace Go.Ab.Ch5
set_option maxRecDepth 1000000
def e5 : EntH := ⟨93, [.ptr 7 0, .str [50, 32, 46, 66, 66]], [none, none, none, none, none, none, none, some (.cells [.sl 24 0 4 1 none] 164), none, none, none, none, none, none, none, none, none, none, none, none, none, none, none, none, some (.cells [.str [46, 46, 46], .str [46, 97, 46], .str [97, 65, 46], .str [46, 65, 98]] 9)], ⟨.int .i64 (0), [none, none, none, none, none, none, none, some (.cells [.sl 28 0 6 1 none] 164), none, none, none, none, none, none, none, none, none, none, none, none, none, none, none, none, none, some (.cells [.int .i64 (0), .int .i64 (0), .int .i64 (0), .int .i64 (0), .int .i64 (0)] 28), some (.cells [.str [46, 66, 66]] 9), some (.cells [.str [46, 66, 66], .str [46, 66, 66]] 9), some (.cells [.str [46, 46, 46], .str [46, 97, 46], .str [97, 65, 46], .str [46, 65, 98], .str [46, 66, 66], .str [46, 66, 66]] 9)], [7, 24]⟩⟩
def T5 : List EntH := [e0, e1, e2, e3, e4]
theorem h5 : Shown T5 e5 := by
  show _ = _
  kernel_rfl
def e6 : EntH := ⟨70, [.agg [.int .i64 (3), .sl 2 0 6 1 (some 6)]], [none, none, some (.cells [.str [46, 46, 46], .str [46, 97, 46], .str [97, 65, 46], .str [46, 65, 98], .str [46, 66, 66], .str [46, 66, 66]] 9), none, none, none, none, none, none, none, none, none, none, none, none, none, none, none, none, none, none, none, none, none, none, none, none, none, none, none, none], ⟨.int .i64 (0), [none, none, some (.cells [.str [46, 46, 46], .str [46, 97, 46], .str [97, 65, 46], .str [46, 65, 98], .str [46, 66, 66], .str [46, 66, 66]] 9), none, none, none, none, none, none, none, none, none, none, none, none, none, none, none, none, none, none, none, none, none, none, none, none, none, none, none, none], []⟩⟩
def T6 : List EntH := [e0, e1, e2, e3, e4, e5]
theorem h6 : Shown T6 e6 := by
  show _ = _
  kernel_rfl
def e7 : EntH := ⟨55, [.agg [.int .i64 (3), .sl 2 0 6 1 (some 6)]], [none, none, some (.cells [.str [46, 46, 46], .str [46, 97, 46], .str [97, 65, 46], .str [46, 65, 98], .str [46, 66, 66], .str [46, 66, 66]] 9), none, none, none, none, none, none, none, none, none, none, none, none, none, none, none, none, none, none, none, none, none, none, none, none, none, none, none], ⟨.tup [.sl 35 0 2 1 none, .int .i64 (0)], [none, none, some (.cells [.str [46, 46, 46], .str [46, 97, 46], .str [97, 65, 46], .str [46, 65, 98], .str [46, 66, 66], .str [46, 66, 66]] 9), none, none, none, none, none, none, none, none, none, none, none, none, none, none, none, none, none, none, none, none, none, none, none, none, none, none, none, some (.cells [.int .i64 (3), .sl 2 0 6 1 (some 6)] 24), some (.cells [.int .i64 (3), .int .i64 (5), .int .i64 (0), .int .i64 (0), .int .i64 (0), .int .i64 (0), .int .i64 (0), .int .i64 (0), .int .i64 (0), .int .i64 (0), .int .i64 (0), .int .i64 (0), .int .i64 (0), .int .i64 (0), .int .i64 (0), .int .i64 (0), .int .i64 (0), .int .i64 (0), .int .i64 (0), .int .i64 (0), .int .i64 (0), .int .i64 (0), .int .i64 (0), .int .i64 (0), .int .i64 (0), .int .i64 (0)] 189), some (.cells [.str [65]] 9), none, some (.cells [.str [66]] 9), some (.cells [.str [65], .str [66]] 9)], []⟩⟩
def T7 : List EntH := [e0, e1, e2, e3, e4, e5, e6]
theorem h7 : Shown T7 e7 := by
  show _ = _
  kernel_rfl
def e8 : EntH := ⟨70, [.agg [.int .i64 (3), .sl 2 0 6 1 (some 6)]], [none, none, some (.cells [.str [46, 46, 46], .str [46, 97, 46], .str [97, 65, 46], .str [46, 65, 98], .str [46, 66, 66], .str [46, 66, 66]] 9), none, none, none, none, none, none, none, none, none, none, none, none, none, none, none, none, none, none, none, none, none, none, none, none, none, none, none, none, none, none, none, none, none, none], ⟨.int .i64 (0), [none, none, some (.cells [.str [46, 46, 46], .str [46, 97, 46], .str [97, 65, 46], .str [46, 65, 98], .str [46, 66, 66], .str [46, 66, 66]] 9), none, none, none, none, none, none, none, none, none, none, none, none, none, none, none, none, none, none, none, none, none, none, none, none, none, none, none, none, none, none, none, none, none, none], []⟩⟩
def T8 : List EntH := [e0, e1, e2, e3, e4, e5, e6, e7]
theorem h8 : Shown T8 e8 := by
  show _ = _
  kernel_rfl
def e9 : EntH := ⟨70, [.agg [.int .i64 (3), .sl 2 0 6 1 (some 6)]], [none, none, some (.cells [.str [46, 46, 46], .str [46, 97, 46], .str [97, 65, 46], .str [46, 65, 98], .str [46, 66, 66], .str [46, 66, 66]] 9), none, none, none, none, none, none, none, none, none, none, none, none, none, none, none, none, none, none, none, none, none, none, none, none, none, none, none, none, none, none, none, none, none, none, none, none], ⟨.int .i64 (0), [none, none, some (.cells [.str [46, 46, 46], .str [46, 97, 46], .str [97, 65, 46], .str [46, 65, 98], .str [46, 66, 66], .str [46, 66, 66]] 9), none, none, none, none, none, none, none, none, none, none, none, none, none, none, none, none, none, none, none, none, none, none, none, none, none, none, none, none, none, none, none, none, none, none, none, none], []⟩⟩
def T9 : List EntH := [e0, e1, e2, e3, e4, e5, e6, e7, e8]
theorem h9 : Shown T9 e9 := by
  show _ = _
  kernel_rfl
end Go.Ab.Ch5

