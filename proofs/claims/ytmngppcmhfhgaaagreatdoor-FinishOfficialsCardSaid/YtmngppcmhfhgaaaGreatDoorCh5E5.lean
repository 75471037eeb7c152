/-
  Own work: pieces of the evaluation of the fixed examples.
-/
import Derived.Test.YtmngppcmhfhgaaaGreatDoorCh5E4
set_option maxHeartbeats 8000000
set_option maxRecDepth 20000
namespace Go.Ab.Ch5
set_option maxRecDepth 1000000
def BB:bD:=⟨216,[.str [49,48,48,48,48,48]],(nn 50),⟨.agg [.int .i64 (100000),.ab],(nn 50),[]⟩⟩
def BC:List bD:=Bz::BA
theorem RY:Shown BC BB:=by
 show _=_;kernel_rfl
def BD:bD:=⟨137,[.str [49,48,48,48,48,48],.bool false],(nn 49),⟨.int .i64 (0),(nn 49),[]⟩⟩
def BE:List bD:=BB::BC
theorem RZ:Shown BE BD:=by
 show _=_;kernel_rfl
def BF:bD:=⟨137,[.str [53],.bool true],(nn 49),⟨.int .i64 (0),(nn 49),[]⟩⟩
def BG:List bD:=BD::BE
theorem Sa:Shown BG BF:=by
 show _=_;kernel_rfl
def BH:bD:=⟨62,[.sl 40 0 3 2 (some 3),.int .i64 (0)],(nn 40++[some (.cells [.int .i64 (0),.int .i64 (100000),.int .i64 (4),.int .i64 (100021),.int .i64 (10),.int .i64 (100050)] 127)]),⟨.ay [.agg [.str [],.str []],.int .i64 (29)],(nn 40++[some (.cells [.int .i64 (0),.int .i64 (100000),.int .i64 (4),.int .i64 (100021),.int .i64 (10),.int .i64 (100050)] 127)]),[]⟩⟩
def BI:List bD:=BF::BG
theorem Sb:Shown BI BH:=by
 show _=_;kernel_rfl
def BJ:bD:=⟨70,[.agg [.int .i64 (3),.sl 2 0 6 1 (some 6)]],[none,none,some (.cells [.str [46,46,46],.str [46,97,46],.str [97,65,46],.str [46,65,98],.str [46,66,66],.str [46,66,66]] 9),none,none,none,none,none,none,none,none,none,none,none,none,none,none,none,none,none,none,none,none,none,none,none,none,none,none,none,none,none,none,none,none,none,none,none,none,none,none,none,none,none],⟨.int .i64 (0),[none,none,some (.cells [.str [46,46,46],.str [46,97,46],.str [97,65,46],.str [46,65,98],.str [46,66,66],.str [46,66,66]] 9),none,none,none,none,none,none,none,none,none,none,none,none,none,none,none,none,none,none,none,none,none,none,none,none,none,none,none,none,none,none,none,none,none,none,none,none,none,none,none,none,none],[]⟩⟩
def BK:List bD:=BH::BI
theorem Sc:Shown BK BJ:=by
 show _=_;kernel_rfl
end Go.Ab.Ch5
