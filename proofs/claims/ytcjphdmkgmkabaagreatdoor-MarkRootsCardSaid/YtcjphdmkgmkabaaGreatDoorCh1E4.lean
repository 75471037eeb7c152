/-
  Own work: pieces of the evaluation of the fixed examples.
-/
import Derived.Test.YtcjphdmkgmkabaaGreatDoorCh1E3
set_option maxHeartbeats 8000000
set_option maxRecDepth 20000
namespace Go.Ab.Ch1
set_option maxRecDepth 1000000
def yT:bH:=⟨102,[.sl 22 0 2 1 (some 2)],(nn 22++[some (.cells [.str [49],.str [45,49]] 75),none,none,none,none,none,none,none,none]),⟨.sl 31 0 2 4 (some 2),(nn 22++[some (.cells [.str [49],.str [45,49]] 75),none,none,none,none,none,none,none,none,some (.cells [.int .i64 (1),.ae,.int .i64 (1),.ae,.int .i64 (-1),.ae,.int .i64 (1),.ae] 133)]),[]⟩⟩
def yU:List bH:=yR::yS
theorem Qg:Shown yU yT:=by
 show _=_;kernel_rfl
def yV:bH:=⟨101,[.sl 24 0 2 1 (some 2)],(nn 24++[some (.cells [.str [51],.str [49]] 75),none,none,none,none,none,none,none,none,none]),⟨.int .i64 (0),(nn 24++[some (.cells [.str [51],.str [49]] 75),none,none,none,none,none,none,none,none,none]),[]⟩⟩
def yW:List bH:=yT::yU
theorem Qh:Shown yW yV:=by
 show _=_;kernel_rfl
def yX:bH:=⟨150,[.agg [.int .i64 (0),.ae,.int .i64 (1),.ae],.agg [.int .i64 (-2),.ae,.int .i64 (1),.ae]],(nn 43),⟨.agg [.int .i64 (0),.ae,.int .i64 (1),.ae],(nn 43),[]⟩⟩
def yY:List bH:=yV::yW
theorem Qi:Shown yY yX:=by
 show _=_;kernel_rfl
end Go.Ab.Ch1
