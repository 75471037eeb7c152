/-
  Own work: pieces of the evaluation of the fixed examples.
-/
import Derived.Test.YtmngppcmhfhgaaaGreatDoorCh5E5
set_option maxHeartbeats 8000000
set_option maxRecDepth 20000
namespace Go.Ab.Ch5
set_option maxRecDepth 1000000
def BL:bD:=⟨216,[.str [49,48,48,48,48,48]],(nn 46),⟨.agg [.int .i64 (100000),.ab],(nn 46),[]⟩⟩
def BM:List bD:=BJ::BK
theorem zZ:Shown BM BL:=by
 show _=_;kernel_rfl
def BN:bD:=⟨137,[.str [49,48,48,48,48,48],.bool false],(nn 45),⟨.int .i64 (0),(nn 45),[]⟩⟩
def BO:List bD:=BL::BM
theorem Sd:Shown BO BN:=by
 show _=_;kernel_rfl
def BP:bD:=⟨137,[.str [53],.bool true],(nn 45),⟨.int .i64 (0),(nn 45),[]⟩⟩
def qj:List bD:=BN::BO
theorem Se:Shown qj BP:=by
 show _=_;kernel_rfl
def BT:bD:=⟨100,[.agg [.int .i64 (100000),.ab,.int .i64 (1),.ab,.int .i64 (5),.ab,.int .i64 (1),.ab],.int .i64 (2)],(nn 46),⟨.agg [.int .i64 (100010),.ab,.int .i64 (1),.ab,.int .i64 (100015),.ab,.int .i64 (1),.ab],(nn 46),[]⟩⟩
def oc:List bD:=BP::qj
theorem Sf:Shown oc BT:=by
 show _=_;kernel_rfl
def BU:bD:=⟨100,[.agg [.int .i64 (100000),.ab,.int .i64 (1),.ab,.int .i64 (5),.ab,.int .i64 (1),.ab],.int .i64 (4)],(nn 50),⟨.agg [.int .i64 (100020),.ab,.int .i64 (1),.ab,.int .i64 (100025),.ab,.int .i64 (1),.ab],(nn 50),[]⟩⟩
def BV:List bD:=BT::oc
theorem Sg:Shown BV BU:=by
 show _=_;kernel_rfl
end Go.Ab.Ch5
