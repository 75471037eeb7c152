/-
  Own work: pieces of the evaluation of the fixed examples.
-/
import Derived.Test.YtmngppcmhfhgaaaGreatDoorCh5E5
set_option maxHeartbeats 8000000
set_option maxRecDepth 20000
namespace Go.Ab.Ch5
set_option maxRecDepth 1000000
def Bp:bA:=⟨216,[.str [49,48,48,48,48,48]],(nn 46),⟨.agg [.int .i64 (100000),.ab],(nn 46),[]⟩⟩
def Br:List bA:=Bn::Bo
theorem zF:Shown Br Bp:=by
 show _=_;kernel_rfl
def Bs:bA:=⟨137,[.str [49,48,48,48,48,48],.bool false],(nn 45),⟨.int .i64 (0),(nn 45),[]⟩⟩
def Bt:List bA:=Bp::Br
theorem RI:Shown Bt Bs:=by
 show _=_;kernel_rfl
def Bu:bA:=⟨137,[.str [53],.bool true],(nn 45),⟨.int .i64 (0),(nn 45),[]⟩⟩
def Bv:List bA:=Bs::Bt
theorem RJ:Shown Bv Bu:=by
 show _=_;kernel_rfl
def Bw:bA:=⟨100,[.agg [.int .i64 (100000),.ab,.int .i64 (1),.ab,.int .i64 (5),.ab,.int .i64 (1),.ab],.int .i64 (2)],(nn 46),⟨.agg [.int .i64 (100010),.ab,.int .i64 (1),.ab,.int .i64 (100015),.ab,.int .i64 (1),.ab],(nn 46),[]⟩⟩
def nF:List bA:=Bu::Bv
theorem RK:Shown nF Bw:=by
 show _=_;kernel_rfl
def Bx:bA:=⟨100,[.agg [.int .i64 (100000),.ab,.int .i64 (1),.ab,.int .i64 (5),.ab,.int .i64 (1),.ab],.int .i64 (4)],(nn 50),⟨.agg [.int .i64 (100020),.ab,.int .i64 (1),.ab,.int .i64 (100025),.ab,.int .i64 (1),.ab],(nn 50),[]⟩⟩
def By:List bA:=Bw::nF
theorem RL:Shown By Bx:=by
 show _=_;kernel_rfl
end Go.Ab.Ch5
