/-
  Own work: pieces of the evaluation of the fixed examples.
-/
import Derived.Test.YtcjphdmkgmkabaaGreatDoorCh1E3
set_option maxHeartbeats 8000000
set_option maxRecDepth 20000
namespace Go.Ab.Ch1
set_option maxRecDepth 1000000
def Cr:bW:=⟨102,[.sl 22 0 2 1 (some 2)],(nn 22++[some (.cells [.str [49],.str [45,49]] 75),none,none,none,none,none,none,none,none]),⟨.sl 31 0 2 4 (some 2),(nn 22++[some (.cells [.str [49],.str [45,49]] 75),none,none,none,none,none,none,none,none,some (.cells [.int .i64 (1),.aa,.int .i64 (1),.aa,.int .i64 (-1),.aa,.int .i64 (1),.aa] 133)]),[]⟩⟩
def Cs:List bW:=Cp::Cq
theorem Vc:Shown Cs Cr:=by
 show _=_;kernel_rfl
def Ct:bW:=⟨101,[.sl 24 0 2 1 (some 2)],(nn 24++[some (.cells [.str [51],.str [49]] 75),none,none,none,none,none,none,none,none,none]),⟨.int .i64 (0),(nn 24++[some (.cells [.str [51],.str [49]] 75),none,none,none,none,none,none,none,none,none]),[]⟩⟩
def Cu:List bW:=Cr::Cs
theorem Vd:Shown Cu Ct:=by
 show _=_;kernel_rfl
def Cv:bW:=⟨150,[.agg [.int .i64 (0),.aa,.int .i64 (1),.aa],.agg [.int .i64 (-2),.aa,.int .i64 (1),.aa]],(nn 43),⟨.agg [.int .i64 (0),.aa,.int .i64 (1),.aa],(nn 43),[]⟩⟩
def Cw:List bW:=Ct::Cu
theorem Ve:Shown Cw Cv:=by
 show _=_;kernel_rfl
end Go.Ab.Ch1
