/-
  Own work: pieces of the evaluation of the fixed examples.
-/
import Derived.Test.YtmngppcmhfhgaaaGreatDoorCh5E3
set_option maxHeartbeats 8000000
set_option maxRecDepth 20000
namespace Go.Ab.Ch5
set_option maxRecDepth 1000000
def AT:bA:=⟨216,[.str [49,48,48,48,48,48]],(nn 48),⟨.agg [.int .i64 (100000),.ab],(nn 48),[]⟩⟩
def AU:List bA:=AR::AS
theorem AW:Shown AU AT:=by
 show _=_;kernel_rfl
def AX:bA:=⟨137,[.str [49,48,48,48,48,48],.bool false],(nn 47),⟨.int .i64 (0),(nn 47),[]⟩⟩
def AY:List bA:=AT::AU
theorem Rz:Shown AY AX:=by
 show _=_;kernel_rfl
def AZ:bA:=⟨137,[.str [53],.bool true],(nn 47),⟨.int .i64 (0),(nn 47),[]⟩⟩
def Ba:List bA:=AX::AY
theorem RA:Shown Ba AZ:=by
 show _=_;kernel_rfl
def Bb:bA:=⟨62,[.sl 38 0 3 2 (some 3),.int .i64 (1)],(nn 38++[some (.cells [.int .i64 (0),.int .i64 (100000),.int .i64 (4),.int .i64 (100021),.int .i64 (10),.int .i64 (100050)] 127)]),⟨.ay [.agg [.str [49,48,48,48,48,48],.str [53]],.int .i64 (0)],(nn 38++[some (.cells [.int .i64 (0),.int .i64 (100000),.int .i64 (4),.int .i64 (100021),.int .i64 (10),.int .i64 (100050)] 127)]),[]⟩⟩
def Bc:List bA:=AZ::Ba
theorem RB:Shown Bc Bb:=by
 show _=_;kernel_rfl
def Bd:bA:=⟨144,[.agg [.int .i64 (50),.ab,.int .i64 (1),.ab],.agg [.int .i64 (10),.ab,.int .i64 (1),.ab]],(nn 45),⟨.agg [.int .i64 (5),.ab,.int .i64 (1),.ab],(nn 45),[]⟩⟩
def Be:List bA:=Bb::Bc
theorem RC:Shown Be Bd:=by
 show _=_;kernel_rfl
end Go.Ab.Ch5
