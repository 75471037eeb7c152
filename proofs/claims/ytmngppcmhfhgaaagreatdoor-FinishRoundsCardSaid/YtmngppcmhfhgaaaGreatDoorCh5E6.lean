/-
  Own work: pieces of the evaluation of the fixed examples.
-/
import Derived.Test.YtmngppcmhfhgaaaGreatDoorCh5E5
set_option maxHeartbeats 8000000
set_option maxRecDepth 20000
namespace Go.Ab.Ch5
set_option maxRecDepth 1000000
def CY:bL:=⟨216,[.str [49,48,48,48,48,48]],(nn 46),⟨.agg [.int .i64 (100000),.ah],(nn 46),[]⟩⟩
def CZ:List bL:=CW::CX
theorem Ba:Shown CZ CY:=by
 show _=_;kernel_rfl
def Da:bL:=⟨137,[.str [49,48,48,48,48,48],.bool false],(nn 45),⟨.int .i64 (0),(nn 45),[]⟩⟩
def Db:List bL:=CY::CZ
theorem Uq:Shown Db Da:=by
 show _=_;kernel_rfl
def Dc:bL:=⟨137,[.str [53],.bool true],(nn 45),⟨.int .i64 (0),(nn 45),[]⟩⟩
def qW:List bL:=Da::Db
theorem Ur:Shown qW Dc:=by
 show _=_;kernel_rfl
def Dd:bL:=⟨100,[.agg [.int .i64 (100000),.ah,.int .i64 (1),.ah,.int .i64 (5),.ah,.int .i64 (1),.ah],.int .i64 (2)],(nn 46),⟨.agg [.int .i64 (100010),.ah,.int .i64 (1),.ah,.int .i64 (100015),.ah,.int .i64 (1),.ah],(nn 46),[]⟩⟩
def qX:List bL:=Dc::qW
theorem Us:Shown qX Dd:=by
 show _=_;kernel_rfl
def De:bL:=⟨100,[.agg [.int .i64 (100000),.ah,.int .i64 (1),.ah,.int .i64 (5),.ah,.int .i64 (1),.ah],.int .i64 (4)],(nn 50),⟨.agg [.int .i64 (100020),.ah,.int .i64 (1),.ah,.int .i64 (100025),.ah,.int .i64 (1),.ah],(nn 50),[]⟩⟩
def Df:List bL:=Dd::qX
theorem Ut:Shown Df De:=by
 show _=_;kernel_rfl
end Go.Ab.Ch5
