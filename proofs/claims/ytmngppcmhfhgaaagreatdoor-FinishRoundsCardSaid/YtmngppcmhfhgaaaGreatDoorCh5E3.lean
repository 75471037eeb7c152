/-
  Own work: pieces of the evaluation of the fixed examples.
-/
import Derived.Test.YtmngppcmhfhgaaaGreatDoorCh5E2
set_option maxHeartbeats 8000000
set_option maxRecDepth 20000
namespace Go.Ab.Ch5
set_option maxRecDepth 1000000
def Cj:bL:=⟨24,[.agg [.int .i64 (3),.sl 2 0 6 1 (some 6)],.agg [.str [49,48,48,48,48,48],.str [53]],.str [65]],[none,none,some (.cells [.str [46,46,46],.str [46,97,46],.str [97,65,46],.str [46,65,98],.str [46,66,66],.str [46,66,66]] 9),none,none,none,none,none,none,none,none,none,none,none,none,none,none,none,none,none,none,none,none,none,none,none,none,none,none,none,none,none,none,none,none,none],⟨.aw [.agg [.str [49,48,48,48,49,48],.str [49,48,48,48,49,53]],.int .i64 (0)],[none,none,some (.cells [.str [46,46,46],.str [46,97,46],.str [97,65,46],.str [46,65,98],.str [46,66,66],.str [46,66,66]] 9),none,none,none,none,none,none,none,none,none,none,none,none,none,none,none,none,none,none,none,none,none,none,none,none,none,none,none,none,none,none,none,none,none],[]⟩⟩
def Ck:List bL:=Ch::Ci
theorem Ud:Shown Ck Cj:=by
 show _=_;kernel_rfl
def Cl:bL:=⟨216,[.str [49,48,48,48,49,48]],(nn 43),⟨.agg [.int .i64 (100010),.ah],(nn 43),[]⟩⟩
def Cm:List bL:=Cj::Ck
theorem Ue:Shown Cm Cl:=by
 show _=_;kernel_rfl
def Cn:bL:=⟨216,[.str [49,48,48,48,49,53]],(nn 43),⟨.agg [.int .i64 (100015),.ah],(nn 43),[]⟩⟩
def Co:List bL:=Cl::Cm
theorem Uf:Shown Co Cn:=by
 show _=_;kernel_rfl
def Cp:bL:=⟨107,[.agg [.str [49,48,48,48,49,48],.str [49,48,48,48,49,53]]],(nn 39),⟨.aw [.agg [.int .i64 (100010),.ah,.int .i64 (1),.ah,.int .i64 (100015),.ah,.int .i64 (1),.ah],.int .i64 (0)],(nn 39),[]⟩⟩
def Cq:List bL:=Cn::Co
theorem wP:Shown Cq Cp:=by
 show _=_;kernel_rfl
def Cr:bL:=⟨144,[.agg [.int .i64 (50),.ah,.int .i64 (1),.ah],.agg [.int .i64 (10),.ah,.int .i64 (1),.ah]],(nn 43),⟨.agg [.int .i64 (5),.ah,.int .i64 (1),.ah],(nn 43),[]⟩⟩
def Cs:List bL:=Cp::Cq
theorem Ug:Shown Cs Cr:=by
 show _=_;kernel_rfl
end Go.Ab.Ch5
