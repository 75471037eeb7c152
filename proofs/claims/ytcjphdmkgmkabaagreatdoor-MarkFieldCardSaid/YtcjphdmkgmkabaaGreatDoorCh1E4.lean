/-
  Own work: pieces of the evaluation of the fixed examples.
-/
import Derived.Test.YtcjphdmkgmkabaaGreatDoorCh1E3
set_option maxHeartbeats 8000000
namespace Go.Ab.Ch1
set_option maxRecDepth 1000000
def zR:bV:=⟨102,[.sl 22 0 2 1 (some 2)],(nn 22++[some (.cells [.str [49],.str [45,49]] 75),none,none,none,none,none,none,none,none]),⟨.sl 31 0 2 4 (some 2),(nn 22++[some (.cells [.str [49],.str [45,49]] 75),none,none,none,none,none,none,none,none,some (.cells [.int .i64 (1),.ah,.int .i64 (1),.ah,.int .i64 (-1),.ah,.int .i64 (1),.ah] 133)]),[]⟩⟩
def zU:List bV:=zO::zQ
theorem PC:Shown zU zR:=by
 show _=_
 kernel_rfl
def zV:bV:=⟨101,[.sl 24 0 2 1 (some 2)],(nn 24++[some (.cells [.str [51],.str [49]] 75),none,none,none,none,none,none,none,none,none]),⟨.int .i64 (0),(nn 24++[some (.cells [.str [51],.str [49]] 75),none,none,none,none,none,none,none,none,none]),[]⟩⟩
def zW:List bV:=zR::zU
theorem PD:Shown zW zV:=by
 show _=_
 kernel_rfl
def zX:bV:=⟨150,[.agg [.int .i64 (0),.ah,.int .i64 (1),.ah],.agg [.int .i64 (-2),.ah,.int .i64 (1),.ah]],(nn 43),⟨.agg [.int .i64 (0),.ah,.int .i64 (1),.ah],(nn 43),[]⟩⟩
def zY:List bV:=zV::zW
theorem PE:Shown zY zX:=by
 show _=_
 kernel_rfl
end Go.Ab.Ch1
