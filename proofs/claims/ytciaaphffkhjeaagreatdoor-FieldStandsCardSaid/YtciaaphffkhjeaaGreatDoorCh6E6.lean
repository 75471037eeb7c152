/-
  Own work: pieces of the evaluation of the fixed examples.
-/
import Derived.Test.YtciaaphffkhjeaaGreatDoorCh6E5
namespace Go.Ab.Ch6
set_option maxRecDepth 1000000
def e36:EntH:=⟨97,[.agg [.str [97,110,110],.sl 182 0 2 1 none,.sl 239 0 2 1 none,.bool false]],(nn 182++[some (.cells [.str [111],.str [120,120,120]] 9),none,none,none,none,none,none,none,none,none,none,none,none,none,none,none,none,none,none,none,none,none,none,none,none,none,none,none,none,none,none,none,none,none,none,none,none,none,none,none,none,none,none,none,none,none,none,none,none,none,none,none,none,none,none,none,none,some (.cells [.str [120],.str [111]] 9),none,none,none,none,none,none,none,none,none,none,none,none,none,none,none,none,none,none,none,none,none,none,none,none,none,none,none,none,none,none,none,none,none,none,none,none,none,none,none,none,none,none,none,none,none,none,none,none,none,none,none,none,none,none,none,none,none,none,none,none]),⟨.int .i64 (0),(nn 182++[some (.cells [.str [111],.str [120,120,120]] 9),none,none,none,none,none,none,none,none,none,none,none,none,none,none,none,none,none,none,none,none,none,none,none,none,none,none,none,none,none,none,none,none,none,none,none,none,none,none,none,none,none,none,none,none,none,none,none,none,none,none,none,none,none,none,none,none,some (.cells [.str [120],.str [111]] 9),none,none,none,none,none,none,none,none,none,none,none,none,none,none,none,none,none,none,none,none,none,none,none,none,none,none,none,none,none,none,none,none,none,none,none,none,none,none,none,none,none,none,none,none,none,none,none,none,none,none,none,none,none,none,none,none,none,none,none,none]),[]⟩⟩
def T36:List EntH:=e35::T35
theorem h36:Shown T36 e36:=by
 show _=_
 kernel_rfl
def e37:EntH:=⟨105,[.sl 304 0 6 1 none,.str [32]],(nn 304++[some (.cells [.str [97,110,110,58],.str [111],.str [120,120,120],.str [124],.str [120],.str [111]] 9)]),⟨.str [97,110,110,58,32,111,32,120,120,120,32,124,32,120,32,111],(nn 304++[some (.cells [.str [97,110,110,58],.str [111],.str [120,120,120],.str [124],.str [120],.str [111]] 9)]),[]⟩⟩
def T37:List EntH:=e36::T36
def e38:EntH:=⟨112,[.agg [.int .i64 (0),.nilsl,.int .i64 (1),.nilsl],.agg [.int .i64 (2),.nilsl,.int .i64 (1),.nilsl]],(nn 304),⟨.agg [.int .i64 (0),.nilsl,.int .i64 (1),.nilsl],(nn 304),[]⟩⟩
def T38:List EntH:=e37::T37
theorem h38:Shown T38 e38:=by
 show _=_
 kernel_rfl
def e39:EntH:=⟨58,[.int .i64 (30000),.int .i64 (40000),.str [49],.int .i64 (1000)],(nn 299),⟨.tup [.int .i64 (49000),.int .i64 (0)],(nn 299),[]⟩⟩
def T39:List EntH:=e38::T38
theorem h39:Shown T39 e39:=by
 show _=_
 kernel_rfl
def e40:EntH:=⟨112,[.agg [.int .i64 (23814400000000),.nilsl,.int .i64 (1),.nilsl],.agg [.int .i64 (1488400),.nilsl,.int .i64 (1),.nilsl]],(nn 304),⟨.agg [.int .i64 (16000000),.nilsl,.int .i64 (1),.nilsl],(nn 304),[]⟩⟩
def T40:List EntH:=e39::T39
theorem h40:Shown T40 e40:=by
 show _=_
 kernel_rfl
def e41:EntH:=⟨59,[.agg [.int .i64 (0),.int .i64 (0)],.agg [.int .i64 (1220),.int .i64 (0)],.agg [.int .i64 (3000),.int .i64 (4000)]],(nn 299),⟨.tup [.int .i64 (4000),.int .i64 (0)],(nn 299),[]⟩⟩
def T41:List EntH:=e40::T40
theorem h41:Shown T41 e41:=by
 show _=_
 kernel_rfl
end Go.Ab.Ch6
