import Derived.Test.YtcjphdmkgmkabaaGreatDoorCh1E1
set_option maxHeartbeats 8000000
set_option maxRecDepth 20000
namespace Go.Ab.Ch1
set_option maxRecDepth 1000000
def e6:cm:=⟨145,[.sl 20 0 3 2 (some 3)],(nn 20++[some (.cells [.str [48],.str [48],.str [49,48],.str [53],.str [50,48],.str [53]] 91)]),⟨.au [.sl 33 0 3 8 none,.int .i64 (0)],(nn 20++[some (.cells [.str [48],.str [48],.str [49,48],.str [53],.str [50,48],.str [53]] 91),some (.cells [.int .i64 (0),.int .i64 (0)] 25),some (.cells [.str [48],.str [48]] 91),some (.cells [.str [48],.str [48]] 75),some (.cells [.int .i64 (0),.ab,.int .i64 (1),.ab,.int .i64 (0),.ab,.int .i64 (1),.ab] 175),none,some (.cells [.str [49,48],.str [53]] 91),some (.cells [.str [49,48],.str [53]] 75),some (.cells [.int .i64 (10),.ab,.int .i64 (1),.ab,.int .i64 (5),.ab,.int .i64 (1),.ab] 175),none,some (.cells [.str [50,48],.str [53]] 91),some (.cells [.str [50,48],.str [53]] 75),some (.cells [.int .i64 (20),.ab,.int .i64 (1),.ab,.int .i64 (5),.ab,.int .i64 (1),.ab] 175),some (.cells [.int .i64 (0),.ab,.int .i64 (1),.ab,.int .i64 (0),.ab,.int .i64 (1),.ab,.int .i64 (10),.ab,.int .i64 (1),.ab,.int .i64 (5),.ab,.int .i64 (1),.ab,.int .i64 (20),.ab,.int .i64 (1),.ab,.int .i64 (5),.ab,.int .i64 (1),.ab] 175)]),[]⟩⟩
def T6:List cm:=e5::T5
theorem h6:Shown T6 e6:=by
 show _=_;kernel_rfl
def e7:cm:=⟨150,[.agg [.int .i64 (4),.ab,.int .i64 (1),.ab],.agg [.int .i64 (10),.ab,.int .i64 (1),.ab]],(nn 38),⟨.agg [.int .i64 (2),.ab,.int .i64 (5),.ab],(nn 38),[]⟩⟩
def T7:List cm:=e6::T6
theorem h7:Shown T7 e7:=by
 show _=_;kernel_rfl
def e8:cm:=⟨61,[.sl 20 0 3 2 (some 3),.str [52]],(nn 20++[some (.cells [.str [48],.str [48],.str [49,48],.str [53],.str [50,48],.str [53]] 91)]),⟨.au [.str [50],.int .i64 (0)],(nn 20++[some (.cells [.str [48],.str [48],.str [49,48],.str [53],.str [50,48],.str [53]] 91)]),[]⟩⟩
def T8:List cm:=e7::T7
theorem h8:Shown T8 e8:=by
 show _=_;kernel_rfl
end Go.Ab.Ch1
