/-
  Own work: pieces of the evaluation of the fixed examples.
-/
import Derived.Test.YtmngppcmhfhgaaaGreatDoorCh5E1
set_option maxHeartbeats 8000000
set_option maxRecDepth 20000
namespace Go.Ab.Ch5
set_option maxRecDepth 1000000
def BZ:bL:=⟨216,[.str [49,48,48,48,48,48]],(nn 41),⟨.agg [.int .i64 (100000),.ah],(nn 41),[]⟩⟩
def Ca:List bL:=e9::T9
theorem AO:Shown Ca BZ:=by
 show _=_;kernel_rfl
def Cb:bL:=⟨137,[.str [49,48,48,48,48,48],.bool false],(nn 40),⟨.int .i64 (0),(nn 40),[]⟩⟩
def Cc:List bL:=BZ::Ca
theorem AP:Shown Cc Cb:=by
 show _=_;kernel_rfl
def Cd:bL:=⟨137,[.str [53],.bool true],(nn 40),⟨.int .i64 (0),(nn 40),[]⟩⟩
def Ce:List bL:=Cb::Cc
theorem Ua:Shown Ce Cd:=by
 show _=_;kernel_rfl
def Cf:bL:=⟨216,[.str [49,48,48,48,48,48]],(nn 43),⟨.agg [.int .i64 (100000),.ah],(nn 43),[]⟩⟩
def Cg:List bL:=Cd::Ce
theorem Ub:Shown Cg Cf:=by
 show _=_;kernel_rfl
def Ch:bL:=⟨100,[.agg [.int .i64 (100000),.ah,.int .i64 (1),.ah,.int .i64 (5),.ah,.int .i64 (1),.ah],.int .i64 (2)],(nn 40),⟨.agg [.int .i64 (100010),.ah,.int .i64 (1),.ah,.int .i64 (100015),.ah,.int .i64 (1),.ah],(nn 40),[]⟩⟩
def Ci:List bL:=Cf::Cg
theorem Uc:Shown Ci Ch:=by
 show _=_;kernel_rfl
end Go.Ab.Ch5
