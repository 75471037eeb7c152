/-
  Own work: pieces of the evaluation of the fixed examples.
-/
import Derived.Test.YtmngppcmhfhgaaaGreatDoorCh5E6
set_option maxHeartbeats 8000000
set_option maxRecDepth 20000
namespace Go.Ab.Ch5
set_option maxRecDepth 1000000
def Bz:bA:=⟨37,[.agg [.int .i64 (3),.sl 2 0 6 1 (some 6)],.agg [.str [49,48,48,48,48,48],.str [53]],.str [101,120,97,99,116]],[none,none,some (.cells [.str [46,46,46],.str [46,97,46],.str [97,65,46],.str [46,65,98],.str [46,66,66],.str [46,66,66]] 9),none,none,none,none,none,none,none,none,none,none,none,none,none,none,none,none,none,none,none,none,none,none,none,none,none,none,none,none,none,none,none,none,none,none,none,none,none,none,none],⟨.ay [.sl 53 0 2 5 none,.int .i64 (0)],[none,none,some (.cells [.str [46,46,46],.str [46,97,46],.str [97,65,46],.str [46,65,98],.str [46,66,66],.str [46,66,66]] 9),none,none,none,none,none,none,none,none,none,none,none,none,none,none,none,none,none,none,none,none,none,none,none,none,none,none,none,none,none,none,none,none,none,none,none,none,none,none,none,some (.cells [.int .i64 (3),.sl 2 0 6 1 (some 6)] 24),some (.cells [.str [49,48,48,48,48,48],.str [53]] 42),some (.cells [.int .i64 (0),.int .i64 (0),.int .i64 (0)] 28),some (.cells [.int .i64 (100000),.ab,.int .i64 (1),.ab,.int .i64 (5),.ab,.int .i64 (1),.ab] 177),some (.cells [.int .i64 (100010),.ab,.int .i64 (1),.ab,.int .i64 (100015),.ab,.int .i64 (1),.ab] 175),some (.cells [.str [116,105,109,101],.int .i64 (100015),.str []] 58),some (.cells [.str [65],.int .i64 (0),.str [116,105,109,101],.int .i64 (100015),.str []] 75),none,some (.cells [.int .i64 (100020),.ab,.int .i64 (1),.ab,.int .i64 (100025),.ab,.int .i64 (1),.ab] 175),some (.cells [.str [116,105,109,101],.int .i64 (100025),.str []] 58),some (.cells [.str [66],.int .i64 (0),.str [116,105,109,101],.int .i64 (100025),.str []] 75),some (.cells [.str [65],.int .i64 (1),.str [116,105,109,101],.int .i64 (100015),.str [],.str [66],.int .i64 (2),.str [116,105,109,101],.int .i64 (100025),.str []] 75)],[]⟩⟩
def BA:List bA:=Bx::By
theorem RM:Shown BA Bz:=by
 show _=_;kernel_rfl
def BB:bA:=⟨107,[.agg [.str [49],.str [50]]],(nn 56),⟨.ay [.agg [.int .i64 (1),.ab,.int .i64 (1),.ab,.int .i64 (2),.ab,.int .i64 (1),.ab],.int .i64 (0)],(nn 56),[]⟩⟩
def BC:List bA:=Bz::BA
theorem RN:Shown BC BB:=by
 show _=_;kernel_rfl
def BD:bA:=⟨107,[.agg [.str [49],.str [50]]],(nn 60),⟨.ay [.agg [.int .i64 (1),.ab,.int .i64 (1),.ab,.int .i64 (2),.ab,.int .i64 (1),.ab],.int .i64 (0)],(nn 60),[]⟩⟩
def BE:List bA:=BB::BC
theorem RO:Shown BE BD:=by
 show _=_;kernel_rfl
def BF:bA:=⟨107,[.agg [.str [50],.str [52]]],(nn 64),⟨.ay [.agg [.int .i64 (2),.ab,.int .i64 (1),.ab,.int .i64 (4),.ab,.int .i64 (1),.ab],.int .i64 (0)],(nn 64),[]⟩⟩
def BG:List bA:=BD::BE
theorem RP:Shown BG BF:=by
 show _=_;kernel_rfl
def BH:bA:=⟨51,[.sl 54 0 3 2 (some 3)],(nn 54++[some (.cells [.str [49],.str [50],.str [49],.str [50],.str [50],.str [52]] 44)]),⟨.ay [.sl 68 0 1 2 none,.int .i64 (0)],(nn 54++[some (.cells [.str [49],.str [50],.str [49],.str [50],.str [50],.str [52]] 44),some (.cells [.str [49],.str [50]] 44),some (.cells [.int .i64 (1),.ab,.int .i64 (1),.ab,.int .i64 (2),.ab,.int .i64 (1),.ab] 175),some (.cells [.int .i64 (1),.ab,.int .i64 (1),.ab,.int .i64 (2),.ab,.int .i64 (1),.ab] 175),none,some (.cells [.str [49],.str [50]] 44),some (.cells [.int .i64 (1),.ab,.int .i64 (1),.ab,.int .i64 (2),.ab,.int .i64 (1),.ab] 175),some (.cells [.int .i64 (1),.ab,.int .i64 (1),.ab,.int .i64 (2),.ab,.int .i64 (1),.ab] 175),none,some (.cells [.str [50],.str [52]] 44),some (.cells [.int .i64 (2),.ab,.int .i64 (1),.ab,.int .i64 (4),.ab,.int .i64 (1),.ab] 175),some (.cells [.int .i64 (2),.ab,.int .i64 (1),.ab,.int .i64 (4),.ab,.int .i64 (1),.ab] 175),some (.cells [.int .i64 (1),.ab,.int .i64 (1),.ab,.int .i64 (2),.ab,.int .i64 (1),.ab,.int .i64 (1),.ab,.int .i64 (1),.ab,.int .i64 (2),.ab,.int .i64 (1),.ab,.int .i64 (2),.ab,.int .i64 (1),.ab,.int .i64 (4),.ab,.int .i64 (1),.ab] 175),some (.cells [.int .i64 (0),.int .i64 (1)] 77),some (.cells [.int .i64 (0),.int .i64 (1)] 77)]),[]⟩⟩
def BI:List bA:=BF::BG
theorem RQ:Shown BI BH:=by
 show _=_;kernel_rfl
end Go.Ab.Ch5
