/-
  Own work: pieces of the evaluation of the fixed examples.
-/
import Derived.Test.YtmngppcmhfhgaaaGreatDoorCh5E4
set_option maxHeartbeats 8000000
set_option maxRecDepth 20000
namespace Go.Ab.Ch5
set_option maxRecDepth 1000000
def CK:bL:=⟨216,[.str [49,48,48,48,48,48]],(nn 50),⟨.agg [.int .i64 (100000),.ah],(nn 50),[]⟩⟩
def CL:List bL:=CE::CH
theorem Ul:Shown CL CK:=by
 show _=_;kernel_rfl
def CM:bL:=⟨137,[.str [49,48,48,48,48,48],.bool false],(nn 49),⟨.int .i64 (0),(nn 49),[]⟩⟩
def CN:List bL:=CK::CL
theorem Um:Shown CN CM:=by
 show _=_;kernel_rfl
def CO:bL:=⟨137,[.str [53],.bool true],(nn 49),⟨.int .i64 (0),(nn 49),[]⟩⟩
def CP:List bL:=CM::CN
theorem Un:Shown CP CO:=by
 show _=_;kernel_rfl
def CU:bL:=⟨62,[.sl 40 0 3 2 (some 3),.int .i64 (0)],(nn 40++[some (.cells [.int .i64 (0),.int .i64 (100000),.int .i64 (4),.int .i64 (100021),.int .i64 (10),.int .i64 (100050)] 127)]),⟨.aw [.agg [.str [],.str []],.int .i64 (29)],(nn 40++[some (.cells [.int .i64 (0),.int .i64 (100000),.int .i64 (4),.int .i64 (100021),.int .i64 (10),.int .i64 (100050)] 127)]),[]⟩⟩
def CV:List bL:=CO::CP
theorem Uo:Shown CV CU:=by
 show _=_;kernel_rfl
def CW:bL:=⟨70,[.agg [.int .i64 (3),.sl 2 0 6 1 (some 6)]],[none,none,some (.cells [.str [46,46,46],.str [46,97,46],.str [97,65,46],.str [46,65,98],.str [46,66,66],.str [46,66,66]] 9),none,none,none,none,none,none,none,none,none,none,none,none,none,none,none,none,none,none,none,none,none,none,none,none,none,none,none,none,none,none,none,none,none,none,none,none,none,none,none,none,none],⟨.int .i64 (0),[none,none,some (.cells [.str [46,46,46],.str [46,97,46],.str [97,65,46],.str [46,65,98],.str [46,66,66],.str [46,66,66]] 9),none,none,none,none,none,none,none,none,none,none,none,none,none,none,none,none,none,none,none,none,none,none,none,none,none,none,none,none,none,none,none,none,none,none,none,none,none,none,none,none,none],[]⟩⟩
def CX:List bL:=CU::CV
theorem Up:Shown CX CW:=by
 show _=_;kernel_rfl
end Go.Ab.Ch5
