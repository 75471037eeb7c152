import Derived.Test.YtcjphdmkgmkabaaGreatDoorCh1E0
set_option maxHeartbeats 8000000
set_option maxRecDepth 20000
namespace Go.Ab.Ch1
set_option maxRecDepth 1000000
def e3:cm:=⟨101,[.sl 23 0 2 1 (some 2)],(nn 23++[some (.cells [.str [48],.str [48]] 75)]),⟨.int .i64 (0),(nn 23++[some (.cells [.str [48],.str [48]] 75)]),[]⟩⟩
def T3:List cm:=e2::T2
theorem h3:Shown T3 e3:=by
 show _=_;kernel_rfl
def e4:cm:=⟨101,[.sl 27 0 2 1 (some 2)],(nn 27++[some (.cells [.str [49,48],.str [53]] 75)]),⟨.int .i64 (0),(nn 27++[some (.cells [.str [49,48],.str [53]] 75)]),[]⟩⟩
def T4:List cm:=e3::T3
theorem h4:Shown T4 e4:=by
 show _=_;kernel_rfl
def e5:cm:=⟨101,[.sl 31 0 2 1 (some 2)],(nn 31++[some (.cells [.str [50,48],.str [53]] 75)]),⟨.int .i64 (0),(nn 31++[some (.cells [.str [50,48],.str [53]] 75)]),[]⟩⟩
def T5:List cm:=e4::T4
theorem h5:Shown T5 e5:=by
 show _=_;kernel_rfl
end Go.Ab.Ch1
