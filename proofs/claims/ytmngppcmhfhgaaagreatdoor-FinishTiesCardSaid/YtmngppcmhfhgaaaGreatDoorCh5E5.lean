/-
  Own work: pieces of the evaluation of the fixed examples.
-/
import Derived.Test.YtmngppcmhfhgaaaGreatDoorCh5E4
set_option maxHeartbeats 8000000
set_option maxRecDepth 20000
namespace Go.Ab.Ch5
set_option maxRecDepth 1000000
def Bf:bA:=⟨216,[.str [49,48,48,48,48,48]],(nn 50),⟨.agg [.int .i64 (100000),.ab],(nn 50),[]⟩⟩
def Bg:List bA:=Bd::Be
theorem RD:Shown Bg Bf:=by
 show _=_;kernel_rfl
def Bh:bA:=⟨137,[.str [49,48,48,48,48,48],.bool false],(nn 49),⟨.int .i64 (0),(nn 49),[]⟩⟩
def Bi:List bA:=Bf::Bg
theorem RE:Shown Bi Bh:=by
 show _=_;kernel_rfl
def Bj:bA:=⟨137,[.str [53],.bool true],(nn 49),⟨.int .i64 (0),(nn 49),[]⟩⟩
def Bk:List bA:=Bh::Bi
theorem RF:Shown Bk Bj:=by
 show _=_;kernel_rfl
def Bl:bA:=⟨62,[.sl 40 0 3 2 (some 3),.int .i64 (0)],(nn 40++[some (.cells [.int .i64 (0),.int .i64 (100000),.int .i64 (4),.int .i64 (100021),.int .i64 (10),.int .i64 (100050)] 127)]),⟨.ay [.agg [.str [],.str []],.int .i64 (29)],(nn 40++[some (.cells [.int .i64 (0),.int .i64 (100000),.int .i64 (4),.int .i64 (100021),.int .i64 (10),.int .i64 (100050)] 127)]),[]⟩⟩
def Bm:List bA:=Bj::Bk
theorem RG:Shown Bm Bl:=by
 show _=_;kernel_rfl
def Bn:bA:=⟨70,[.agg [.int .i64 (3),.sl 2 0 6 1 (some 6)]],[none,none,some (.cells [.str [46,46,46],.str [46,97,46],.str [97,65,46],.str [46,65,98],.str [46,66,66],.str [46,66,66]] 9),none,none,none,none,none,none,none,none,none,none,none,none,none,none,none,none,none,none,none,none,none,none,none,none,none,none,none,none,none,none,none,none,none,none,none,none,none,none,none,none,none],⟨.int .i64 (0),[none,none,some (.cells [.str [46,46,46],.str [46,97,46],.str [97,65,46],.str [46,65,98],.str [46,66,66],.str [46,66,66]] 9),none,none,none,none,none,none,none,none,none,none,none,none,none,none,none,none,none,none,none,none,none,none,none,none,none,none,none,none,none,none,none,none,none,none,none,none,none,none,none,none,none],[]⟩⟩
def Bo:List bA:=Bl::Bm
theorem RH:Shown Bo Bn:=by
 show _=_;kernel_rfl
end Go.Ab.Ch5
