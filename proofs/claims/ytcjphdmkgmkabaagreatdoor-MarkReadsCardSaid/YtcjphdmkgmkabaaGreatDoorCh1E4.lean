/-
  Own work: pieces of the evaluation of the fixed examples.
-/
import Derived.Test.YtcjphdmkgmkabaaGreatDoorCh1E3
set_option maxHeartbeats 8000000
set_option maxRecDepth 20000
namespace Go.Ab.Ch1
set_option maxRecDepth 1000000
def qb:aX:=⟨102,[.sl 22 0 2 1 (some 2)],(nn 22++[some (.cells [.str [49],.str [45,49]] 75),none,none,none,none,none,none,none,none]),⟨.sl 31 0 2 4 (some 2),(nn 22++[some (.cells [.str [49],.str [45,49]] 75),none,none,none,none,none,none,none,none,some (.cells [.int .i64 (1),.ak,.int .i64 (1),.ak,.int .i64 (-1),.ak,.int .i64 (1),.ak] 133)]),[]⟩⟩
def qc:List aX:=pZ::qa
theorem CV:Shown qc qb:=by
 show _=_;kernel_rfl
def qd:aX:=⟨101,[.sl 24 0 2 1 (some 2)],(nn 24++[some (.cells [.str [51],.str [49]] 75),none,none,none,none,none,none,none,none,none]),⟨.int .i64 (0),(nn 24++[some (.cells [.str [51],.str [49]] 75),none,none,none,none,none,none,none,none,none]),[]⟩⟩
def qe:List aX:=qb::qc
theorem CW:Shown qe qd:=by
 show _=_;kernel_rfl
def qh:aX:=⟨150,[.agg [.int .i64 (0),.ak,.int .i64 (1),.ak],.agg [.int .i64 (-2),.ak,.int .i64 (1),.ak]],(nn 43),⟨.agg [.int .i64 (0),.ak,.int .i64 (1),.ak],(nn 43),[]⟩⟩
def qi:List aX:=qd::qe
theorem CX:Shown qi qh:=by
 show _=_;kernel_rfl
end Go.Ab.Ch1
