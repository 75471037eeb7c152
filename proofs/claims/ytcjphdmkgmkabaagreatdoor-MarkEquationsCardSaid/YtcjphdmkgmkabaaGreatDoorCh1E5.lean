import Derived.Test.YtcjphdmkgmkabaaGreatDoorCh1E4
set_option maxHeartbeats 8000000
set_option maxRecDepth 20000
namespace Go.Ab.Ch1
set_option maxRecDepth 1000000
def DR:cm:=⟨150,[.agg [.int .i64 (-2),.ab,.int .i64 (1),.ab],.agg [.int .i64 (-2),.ab,.int .i64 (1),.ab]],(nn 43),⟨.agg [.int .i64 (1),.ab,.int .i64 (1),.ab],(nn 43),[]⟩⟩
def DS:List cm:=DP::DQ
theorem Xn:Shown DS DR:=by
 show _=_;kernel_rfl
def DT:cm:=⟨104,[.sl 33 0 2 1 none],(nn 33++[some (.cells [.sl 36 0 3 4 none,.sl 38 0 3 4 none] 127),none,none,some (.cells [.int .i64 (1),.ab,.int .i64 (1),.ab,.int .i64 (1),.ab,.int .i64 (1),.ab,.int .i64 (3),.ab,.int .i64 (1),.ab] 133),none,some (.cells [.int .i64 (1),.ab,.int .i64 (1),.ab,.int .i64 (-1),.ab,.int .i64 (1),.ab,.int .i64 (1),.ab,.int .i64 (1),.ab] 133)]),⟨.bool true,(nn 33++[some (.cells [.sl 36 0 3 4 none,.sl 38 0 3 4 none] 127),none,none,some (.cells [.int .i64 (1),.ab,.int .i64 (1),.ab,.int .i64 (0),.ab,.int .i64 (1),.ab,.int .i64 (2),.ab,.int .i64 (1),.ab] 133),none,some (.cells [.int .i64 (0),.ab,.int .i64 (1),.ab,.int .i64 (1),.ab,.int .i64 (1),.ab,.int .i64 (1),.ab,.int .i64 (1),.ab] 133)]),[36,36,36,38,38,38,33,33,38,38,38,36,36,36,33,33]⟩⟩
def DU:List cm:=DR::DS
theorem Xo:Shown DU DT:=by
 show _=_;kernel_rfl
def DV:cm:=⟨30,[.sl 23 0 2 1 (some 2),.sl 24 0 2 1 (some 2)],(nn 21++[some (.cells [.str [49],.str [49]] 75),some (.cells [.str [49],.str [45,49]] 75),some (.cells [.sl 21 0 2 1 (some 2),.sl 22 0 2 1 (some 2)] 38),some (.cells [.str [51],.str [49]] 75)]),⟨.au [.sl 42 0 2 1 none,.int .i64 (0)],(nn 21++[some (.cells [.str [49],.str [49]] 75),some (.cells [.str [49],.str [45,49]] 75),some (.cells [.sl 21 0 2 1 (some 2),.sl 22 0 2 1 (some 2)] 38),some (.cells [.str [51],.str [49]] 75),some (.cells [.int .i64 (0),.int .i64 (0)] 25),some (.cells [.int .i64 (0),.int .i64 (0)] 25),some (.cells [.int .i64 (1),.ab,.int .i64 (1),.ab,.int .i64 (1),.ab,.int .i64 (1),.ab] 133),some (.cells [.sl 27 0 2 4 (some 2)] 127),none,some (.cells [.int .i64 (0),.int .i64 (0)] 25),some (.cells [.int .i64 (1),.ab,.int .i64 (1),.ab,.int .i64 (-1),.ab,.int .i64 (1),.ab] 133),some (.cells [.sl 31 0 2 4 (some 2)] 127),some (.cells [.sl 36 0 3 4 none,.sl 38 0 3 4 none] 127),some (.cells [.int .i64 (0),.int .i64 (0)] 25),some (.cells [.int .i64 (3),.ab,.int .i64 (1),.ab] 133),some (.cells [.int .i64 (1),.ab,.int .i64 (1),.ab,.int .i64 (0),.ab,.int .i64 (1),.ab,.int .i64 (2),.ab,.int .i64 (1),.ab] 133),some (.cells [.int .i64 (1),.ab,.int .i64 (1),.ab] 133),some (.cells [.int .i64 (0),.ab,.int .i64 (1),.ab,.int .i64 (1),.ab,.int .i64 (1),.ab,.int .i64 (1),.ab,.int .i64 (1),.ab] 133),some (.cells [.str [50]] 75),none,some (.cells [.str [49]] 75),some (.cells [.str [50],.str [49]] 75)]),[]⟩⟩
def DW:List cm:=DT::DU
theorem Xp:Shown DW DV:=by
 show _=_;kernel_rfl
end Go.Ab.Ch1
