/-
  Own work: pieces of the evaluation of the fixed examples.
-/
import Derived.Test.YtmngppcmhfhgaaaGreatDoorCh5E3
set_option maxHeartbeats 8000000
set_option maxRecDepth 20000
namespace Go.Ab.Ch5
set_option maxRecDepth 1000000
def Ct:bL:=⟨216,[.str [49,48,48,48,48,48]],(nn 48),⟨.agg [.int .i64 (100000),.ah],(nn 48),[]⟩⟩
def Cu:List bL:=Cr::Cs
theorem Cv:Shown Cu Ct:=by
 show _=_;kernel_rfl
def Cw:bL:=⟨137,[.str [49,48,48,48,48,48],.bool false],(nn 47),⟨.int .i64 (0),(nn 47),[]⟩⟩
def Cy:List bL:=Ct::Cu
theorem Uh:Shown Cy Cw:=by
 show _=_;kernel_rfl
def Cz:bL:=⟨137,[.str [53],.bool true],(nn 47),⟨.int .i64 (0),(nn 47),[]⟩⟩
def CA:List bL:=Cw::Cy
theorem Ui:Shown CA Cz:=by
 show _=_;kernel_rfl
def CB:bL:=⟨62,[.sl 38 0 3 2 (some 3),.int .i64 (1)],(nn 38++[some (.cells [.int .i64 (0),.int .i64 (100000),.int .i64 (4),.int .i64 (100021),.int .i64 (10),.int .i64 (100050)] 127)]),⟨.aw [.agg [.str [49,48,48,48,48,48],.str [53]],.int .i64 (0)],(nn 38++[some (.cells [.int .i64 (0),.int .i64 (100000),.int .i64 (4),.int .i64 (100021),.int .i64 (10),.int .i64 (100050)] 127)]),[]⟩⟩
def CC:List bL:=Cz::CA
theorem Uj:Shown CC CB:=by
 show _=_;kernel_rfl
def CE:bL:=⟨144,[.agg [.int .i64 (50),.ah,.int .i64 (1),.ah],.agg [.int .i64 (10),.ah,.int .i64 (1),.ah]],(nn 45),⟨.agg [.int .i64 (5),.ah,.int .i64 (1),.ah],(nn 45),[]⟩⟩
def CH:List bL:=CB::CC
theorem Uk:Shown CH CE:=by
 show _=_;kernel_rfl
end Go.Ab.Ch5
