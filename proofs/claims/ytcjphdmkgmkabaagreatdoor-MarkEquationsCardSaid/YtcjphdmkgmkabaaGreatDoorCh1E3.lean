import Derived.Test.YtcjphdmkgmkabaaGreatDoorCh1E2
set_option maxHeartbeats 8000000
set_option maxRecDepth 20000
namespace Go.Ab.Ch1
set_option maxRecDepth 1000000
def e9:cm:=⟨101,[.sl 21 0 2 1 (some 2)],(nn 21++[some (.cells [.str [49],.str [49]] 75),none,none,none,none]),⟨.int .i64 (0),(nn 21++[some (.cells [.str [49],.str [49]] 75),none,none,none,none]),[]⟩⟩
def T9:List cm:=e8::T8
theorem h9:Shown T9 e9:=by
 show _=_;kernel_rfl
def DH:cm:=⟨102,[.sl 21 0 2 1 (some 2)],(nn 21++[some (.cells [.str [49],.str [49]] 75),none,none,none,none,none]),⟨.sl 27 0 2 4 (some 2),(nn 21++[some (.cells [.str [49],.str [49]] 75),none,none,none,none,none,some (.cells [.int .i64 (1),.ab,.int .i64 (1),.ab,.int .i64 (1),.ab,.int .i64 (1),.ab] 133)]),[]⟩⟩
def DI:List cm:=e9::T9
theorem Co:Shown DI DH:=by
 show _=_;kernel_rfl
def DJ:cm:=⟨101,[.sl 22 0 2 1 (some 2)],(nn 22++[some (.cells [.str [49],.str [45,49]] 75),none,none,none,none,none,none,none]),⟨.int .i64 (0),(nn 22++[some (.cells [.str [49],.str [45,49]] 75),none,none,none,none,none,none,none]),[]⟩⟩
def DK:List cm:=DH::DI
theorem Cp:Shown DK DJ:=by
 show _=_;kernel_rfl
end Go.Ab.Ch1
