import Derived.Test.YtcjphdmkgmkabaaGreatDoorCh1E3
set_option maxHeartbeats 8000000
set_option maxRecDepth 20000
namespace Go.Ab.Ch1
set_option maxRecDepth 1000000
def DL:cm:=⟨102,[.sl 22 0 2 1 (some 2)],(nn 22++[some (.cells [.str [49],.str [45,49]] 75),none,none,none,none,none,none,none,none]),⟨.sl 31 0 2 4 (some 2),(nn 22++[some (.cells [.str [49],.str [45,49]] 75),none,none,none,none,none,none,none,none,some (.cells [.int .i64 (1),.ab,.int .i64 (1),.ab,.int .i64 (-1),.ab,.int .i64 (1),.ab] 133)]),[]⟩⟩
def DM:List cm:=DJ::DK
theorem Xk:Shown DM DL:=by
 show _=_;kernel_rfl
def DN:cm:=⟨101,[.sl 24 0 2 1 (some 2)],(nn 24++[some (.cells [.str [51],.str [49]] 75),none,none,none,none,none,none,none,none,none]),⟨.int .i64 (0),(nn 24++[some (.cells [.str [51],.str [49]] 75),none,none,none,none,none,none,none,none,none]),[]⟩⟩
def DO:List cm:=DL::DM
theorem Xl:Shown DO DN:=by
 show _=_;kernel_rfl
def DP:cm:=⟨150,[.agg [.int .i64 (0),.ab,.int .i64 (1),.ab],.agg [.int .i64 (-2),.ab,.int .i64 (1),.ab]],(nn 43),⟨.agg [.int .i64 (0),.ab,.int .i64 (1),.ab],(nn 43),[]⟩⟩
def DQ:List cm:=DN::DO
theorem Xm:Shown DQ DP:=by
 show _=_;kernel_rfl
end Go.Ab.Ch1
