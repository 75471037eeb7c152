/-
  Own work: pieces of the evaluation of the fixed examples.
-/
import Derived.Test.YtmngppcmhfhgaaaGreatDoorCh5E3
set_option maxHeartbeats 8000000
set_option maxRecDepth 20000
namespace Go.Ab.Ch5
set_option maxRecDepth 1000000
def Bp:bD:=⟨216,[.str [49,48,48,48,48,48]],(nn 48),⟨.agg [.int .i64 (100000),.ab],(nn 48),[]⟩⟩
def Br:List bD:=Bn::Bo
theorem Bs:Shown Br Bp:=by
 show _=_;kernel_rfl
def Bt:bD:=⟨137,[.str [49,48,48,48,48,48],.bool false],(nn 47),⟨.int .i64 (0),(nn 47),[]⟩⟩
def Bu:List bD:=Bp::Br
theorem RU:Shown Bu Bt:=by
 show _=_;kernel_rfl
def Bv:bD:=⟨137,[.str [53],.bool true],(nn 47),⟨.int .i64 (0),(nn 47),[]⟩⟩
def Bw:List bD:=Bt::Bu
theorem RV:Shown Bw Bv:=by
 show _=_;kernel_rfl
def Bx:bD:=⟨62,[.sl 38 0 3 2 (some 3),.int .i64 (1)],(nn 38++[some (.cells [.int .i64 (0),.int .i64 (100000),.int .i64 (4),.int .i64 (100021),.int .i64 (10),.int .i64 (100050)] 127)]),⟨.ay [.agg [.str [49,48,48,48,48,48],.str [53]],.int .i64 (0)],(nn 38++[some (.cells [.int .i64 (0),.int .i64 (100000),.int .i64 (4),.int .i64 (100021),.int .i64 (10),.int .i64 (100050)] 127)]),[]⟩⟩
def By:List bD:=Bv::Bw
theorem RW:Shown By Bx:=by
 show _=_;kernel_rfl
def Bz:bD:=⟨144,[.agg [.int .i64 (50),.ab,.int .i64 (1),.ab],.agg [.int .i64 (10),.ab,.int .i64 (1),.ab]],(nn 45),⟨.agg [.int .i64 (5),.ab,.int .i64 (1),.ab],(nn 45),[]⟩⟩
def BA:List bD:=Bx::By
theorem RX:Shown BA Bz:=by
 show _=_;kernel_rfl
end Go.Ab.Ch5
