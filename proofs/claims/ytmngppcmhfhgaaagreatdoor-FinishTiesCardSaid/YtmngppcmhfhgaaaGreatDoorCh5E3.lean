/-
  Own work: pieces of the evaluation of the fixed examples.
-/
import Derived.Test.YtmngppcmhfhgaaaGreatDoorCh5E2
set_option maxHeartbeats 8000000
set_option maxRecDepth 20000
namespace Go.Ab.Ch5
set_option maxRecDepth 1000000
def AJ:bA:=⟨24,[.agg [.int .i64 (3),.sl 2 0 6 1 (some 6)],.agg [.str [49,48,48,48,48,48],.str [53]],.str [65]],[none,none,some (.cells [.str [46,46,46],.str [46,97,46],.str [97,65,46],.str [46,65,98],.str [46,66,66],.str [46,66,66]] 9),none,none,none,none,none,none,none,none,none,none,none,none,none,none,none,none,none,none,none,none,none,none,none,none,none,none,none,none,none,none,none,none,none],⟨.ay [.agg [.str [49,48,48,48,49,48],.str [49,48,48,48,49,53]],.int .i64 (0)],[none,none,some (.cells [.str [46,46,46],.str [46,97,46],.str [97,65,46],.str [46,65,98],.str [46,66,66],.str [46,66,66]] 9),none,none,none,none,none,none,none,none,none,none,none,none,none,none,none,none,none,none,none,none,none,none,none,none,none,none,none,none,none,none,none,none,none],[]⟩⟩
def AK:List bA:=AH::AI
theorem Rv:Shown AK AJ:=by
 show _=_;kernel_rfl
def AL:bA:=⟨216,[.str [49,48,48,48,49,48]],(nn 43),⟨.agg [.int .i64 (100010),.ab],(nn 43),[]⟩⟩
def AM:List bA:=AJ::AK
theorem Rw:Shown AM AL:=by
 show _=_;kernel_rfl
def AN:bA:=⟨216,[.str [49,48,48,48,49,53]],(nn 43),⟨.agg [.int .i64 (100015),.ab],(nn 43),[]⟩⟩
def AO:List bA:=AL::AM
theorem Rx:Shown AO AN:=by
 show _=_;kernel_rfl
def AP:bA:=⟨107,[.agg [.str [49,48,48,48,49,48],.str [49,48,48,48,49,53]]],(nn 39),⟨.ay [.agg [.int .i64 (100010),.ab,.int .i64 (1),.ab,.int .i64 (100015),.ab,.int .i64 (1),.ab],.int .i64 (0)],(nn 39),[]⟩⟩
def AQ:List bA:=AN::AO
theorem uM:Shown AQ AP:=by
 show _=_;kernel_rfl
def AR:bA:=⟨144,[.agg [.int .i64 (50),.ab,.int .i64 (1),.ab],.agg [.int .i64 (10),.ab,.int .i64 (1),.ab]],(nn 43),⟨.agg [.int .i64 (5),.ab,.int .i64 (1),.ab],(nn 43),[]⟩⟩
def AS:List bA:=AP::AQ
theorem Ry:Shown AS AR:=by
 show _=_;kernel_rfl
end Go.Ab.Ch5
