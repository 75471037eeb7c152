/-
  Own work: pieces of the evaluation of the fixed examples.
-/
import Derived.Test.YtciaaphffkhjeaaGreatDoorCh6E6
namespace Go.Ab.Ch6
set_option maxRecDepth 1000000
def e42:EntH:=⟨106,[.str [52,47,53]],(nn 300),⟨.int .i64 (0),(nn 300),[]⟩⟩
def T42:List EntH:=e41::T41
theorem h42:Shown T42 e42:=by
 show _=_
 kernel_rfl
def e43:EntH:=⟨107,[.str [52,47,53]],(nn 301),⟨.agg [.int .i64 (4),.nilsl,.int .i64 (5),.nilsl],(nn 301),[]⟩⟩
def T43:List EntH:=e42::T42
theorem h43:Shown T43 e43:=by
 show _=_
 kernel_rfl
def e44:EntH:=⟨60,[.agg [.int .i64 (3000),.int .i64 (4000)],.str [52,47,53]],(nn 299),⟨.tup [.bool true,.int .i64 (0)],(nn 299),[]⟩⟩
def T44:List EntH:=e43::T43
theorem h44:Shown T44 e44:=by
 show _=_
 kernel_rfl
def e45:EntH:=⟨106,[.str [51,47,52]],(nn 300),⟨.int .i64 (0),(nn 300),[]⟩⟩
def T45:List EntH:=e44::T44
theorem h45:Shown T45 e45:=by
 show _=_
 kernel_rfl
def e46:EntH:=⟨107,[.str [51,47,52]],(nn 301),⟨.agg [.int .i64 (3),.nilsl,.int .i64 (4),.nilsl],(nn 301),[]⟩⟩
def T46:List EntH:=e45::T45
theorem h46:Shown T46 e46:=by
 show _=_
 kernel_rfl
def e47:EntH:=⟨60,[.agg [.int .i64 (3000),.int .i64 (4000)],.str [51,47,52]],(nn 299),⟨.tup [.bool false,.int .i64 (0)],(nn 299),[]⟩⟩
def T47:List EntH:=e46::T46
theorem h47:Shown T47 e47:=by
 show _=_
 kernel_rfl
end Go.Ab.Ch6
