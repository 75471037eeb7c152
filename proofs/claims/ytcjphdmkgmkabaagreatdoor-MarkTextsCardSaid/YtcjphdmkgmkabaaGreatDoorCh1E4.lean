/-
  Own work: pieces of the evaluation of the fixed examples.
-/
import Derived.Test.YtcjphdmkgmkabaaGreatDoorCh1E3
set_option maxHeartbeats 8000000
set_option maxRecDepth 20000
namespace Go.Ab.Ch1
set_option maxRecDepth 1000000
def qG:bf:=⟨102,[.sl 22 0 2 1 (some 2)],(nn 22++[some (.cells [.str [49],.str [45,49]] 75),none,none,none,none,none,none,none,none]),⟨.sl 31 0 2 4 (some 2),(nn 22++[some (.cells [.str [49],.str [45,49]] 75),none,none,none,none,none,none,none,none,some (.cells [.int .i64 (1),.al,.int .i64 (1),.al,.int .i64 (-1),.al,.int .i64 (1),.al] 133)]),[]⟩⟩
def qH:List bf:=qE::qF
theorem DT:Shown qH qG:=by
 show _=_;kernel_rfl
def qI:bf:=⟨101,[.sl 24 0 2 1 (some 2)],(nn 24++[some (.cells [.str [51],.str [49]] 75),none,none,none,none,none,none,none,none,none]),⟨.int .i64 (0),(nn 24++[some (.cells [.str [51],.str [49]] 75),none,none,none,none,none,none,none,none,none]),[]⟩⟩
def qJ:List bf:=qG::qH
theorem DU:Shown qJ qI:=by
 show _=_;kernel_rfl
def qK:bf:=⟨150,[.agg [.int .i64 (0),.al,.int .i64 (1),.al],.agg [.int .i64 (-2),.al,.int .i64 (1),.al]],(nn 43),⟨.agg [.int .i64 (0),.al,.int .i64 (1),.al],(nn 43),[]⟩⟩
def qL:List bf:=qI::qJ
theorem DV:Shown qL qK:=by
 show _=_;kernel_rfl
end Go.Ab.Ch1
