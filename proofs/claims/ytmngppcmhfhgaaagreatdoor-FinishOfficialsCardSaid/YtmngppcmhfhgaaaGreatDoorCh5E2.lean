/-
  Own work: pieces of the evaluation of the fixed examples.
-/
import Derived.Test.YtmngppcmhfhgaaaGreatDoorCh5E1
set_option maxHeartbeats 8000000
set_option maxRecDepth 20000
namespace Go.Ab.Ch5
set_option maxRecDepth 1000000
def rQ:bD:=⟨216,[.str [49,48,48,48,48,48]],(nn 41),⟨.agg [.int .i64 (100000),.ab],(nn 41),[]⟩⟩
def AW:List bD:=e9::T9
theorem zJ:Shown AW rQ:=by
 show _=_;kernel_rfl
def AX:bD:=⟨137,[.str [49,48,48,48,48,48],.bool false],(nn 40),⟨.int .i64 (0),(nn 40),[]⟩⟩
def AY:List bD:=rQ::AW
theorem zK:Shown AY AX:=by
 show _=_;kernel_rfl
def AZ:bD:=⟨137,[.str [53],.bool true],(nn 40),⟨.int .i64 (0),(nn 40),[]⟩⟩
def Ba:List bD:=AX::AY
theorem RN:Shown Ba AZ:=by
 show _=_;kernel_rfl
def Bb:bD:=⟨216,[.str [49,48,48,48,48,48]],(nn 43),⟨.agg [.int .i64 (100000),.ab],(nn 43),[]⟩⟩
def Bc:List bD:=AZ::Ba
theorem RO:Shown Bc Bb:=by
 show _=_;kernel_rfl
def Bd:bD:=⟨100,[.agg [.int .i64 (100000),.ab,.int .i64 (1),.ab,.int .i64 (5),.ab,.int .i64 (1),.ab],.int .i64 (2)],(nn 40),⟨.agg [.int .i64 (100010),.ab,.int .i64 (1),.ab,.int .i64 (100015),.ab,.int .i64 (1),.ab],(nn 40),[]⟩⟩
def Be:List bD:=Bb::Bc
theorem RP:Shown Be Bd:=by
 show _=_;kernel_rfl
end Go.Ab.Ch5
