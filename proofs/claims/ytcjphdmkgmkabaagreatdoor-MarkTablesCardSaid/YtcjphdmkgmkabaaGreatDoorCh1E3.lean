/-
  Own work: pieces of the evaluation of the fixed examples.
-/
import Derived.Test.YtcjphdmkgmkabaaGreatDoorCh1E2
set_option maxHeartbeats 8000000
set_option maxRecDepth 20000
namespace Go.Ab.Ch1
set_option maxRecDepth 1000000
def e9:bW:=⟨101,[.sl 21 0 2 1 (some 2)],(nn 21++[some (.cells [.str [49],.str [49]] 75),none,none,none,none]),⟨.int .i64 (0),(nn 21++[some (.cells [.str [49],.str [49]] 75),none,none,none,none]),[]⟩⟩
def T9:List bW:=e8::T8
theorem h9:Shown T9 e9:=by
 show _=_;kernel_rfl
def Cn:bW:=⟨102,[.sl 21 0 2 1 (some 2)],(nn 21++[some (.cells [.str [49],.str [49]] 75),none,none,none,none,none]),⟨.sl 27 0 2 4 (some 2),(nn 21++[some (.cells [.str [49],.str [49]] 75),none,none,none,none,none,some (.cells [.int .i64 (1),.aa,.int .i64 (1),.aa,.int .i64 (1),.aa,.int .i64 (1),.aa] 133)]),[]⟩⟩
def Co:List bW:=e9::T9
theorem Bf:Shown Co Cn:=by
 show _=_;kernel_rfl
def Cp:bW:=⟨101,[.sl 22 0 2 1 (some 2)],(nn 22++[some (.cells [.str [49],.str [45,49]] 75),none,none,none,none,none,none,none]),⟨.int .i64 (0),(nn 22++[some (.cells [.str [49],.str [45,49]] 75),none,none,none,none,none,none,none]),[]⟩⟩
def Cq:List bW:=Cn::Co
theorem rU:Shown Cq Cp:=by
 show _=_;kernel_rfl
end Go.Ab.Ch1
