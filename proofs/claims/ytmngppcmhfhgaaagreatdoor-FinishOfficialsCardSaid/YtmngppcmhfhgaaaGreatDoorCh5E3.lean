/-
  Own work: pieces of the evaluation of the fixed examples.
-/
import Derived.Test.YtmngppcmhfhgaaaGreatDoorCh5E2
set_option maxHeartbeats 8000000
set_option maxRecDepth 20000
namespace Go.Ab.Ch5
set_option maxRecDepth 1000000
def Bf:bD:=⟨24,[.agg [.int .i64 (3),.sl 2 0 6 1 (some 6)],.agg [.str [49,48,48,48,48,48],.str [53]],.str [65]],[none,none,some (.cells [.str [46,46,46],.str [46,97,46],.str [97,65,46],.str [46,65,98],.str [46,66,66],.str [46,66,66]] 9),none,none,none,none,none,none,none,none,none,none,none,none,none,none,none,none,none,none,none,none,none,none,none,none,none,none,none,none,none,none,none,none,none],⟨.ay [.agg [.str [49,48,48,48,49,48],.str [49,48,48,48,49,53]],.int .i64 (0)],[none,none,some (.cells [.str [46,46,46],.str [46,97,46],.str [97,65,46],.str [46,65,98],.str [46,66,66],.str [46,66,66]] 9),none,none,none,none,none,none,none,none,none,none,none,none,none,none,none,none,none,none,none,none,none,none,none,none,none,none,none,none,none,none,none,none,none],[]⟩⟩
def Bg:List bD:=Bd::Be
theorem RQ:Shown Bg Bf:=by
 show _=_;kernel_rfl
def Bh:bD:=⟨216,[.str [49,48,48,48,49,48]],(nn 43),⟨.agg [.int .i64 (100010),.ab],(nn 43),[]⟩⟩
def Bi:List bD:=Bf::Bg
theorem RR:Shown Bi Bh:=by
 show _=_;kernel_rfl
def Bj:bD:=⟨216,[.str [49,48,48,48,49,53]],(nn 43),⟨.agg [.int .i64 (100015),.ab],(nn 43),[]⟩⟩
def Bk:List bD:=Bh::Bi
theorem RS:Shown Bk Bj:=by
 show _=_;kernel_rfl
def Bl:bD:=⟨107,[.agg [.str [49,48,48,48,49,48],.str [49,48,48,48,49,53]]],(nn 39),⟨.ay [.agg [.int .i64 (100010),.ab,.int .i64 (1),.ab,.int .i64 (100015),.ab,.int .i64 (1),.ab],.int .i64 (0)],(nn 39),[]⟩⟩
def Bm:List bD:=Bj::Bk
theorem vi:Shown Bm Bl:=by
 show _=_;kernel_rfl
def Bn:bD:=⟨144,[.agg [.int .i64 (50),.ab,.int .i64 (1),.ab],.agg [.int .i64 (10),.ab,.int .i64 (1),.ab]],(nn 43),⟨.agg [.int .i64 (5),.ab,.int .i64 (1),.ab],(nn 43),[]⟩⟩
def Bo:List bD:=Bl::Bm
theorem RT:Shown Bo Bn:=by
 show _=_;kernel_rfl
end Go.Ab.Ch5
