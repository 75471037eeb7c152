/-
  Own work: pieces of the evaluation of the fixed examples.
-/
import Derived.Test.YtcjphdmkgmkabaaGreatDoorCh1E5
set_option maxHeartbeats 8000000
namespace Go.Ab.Ch1
set_option maxRecDepth 1000000
def rB:bV:=⟨124,[.str [57,46,53]],(nn 49),⟨.ao [.agg [.str [116,105,109,101],.int .i64 (95000),.str []],.int .i64 (0)],(nn 49),[]⟩⟩
def Ag:List bV:=Ae::Af
theorem ux:Shown Ag rB:=by
 show _=_
 kernel_rfl
def Ah:bV:=⟨124,[.str [54,49,46,48,48]],(nn 50),⟨.ao [.agg [.str [],.int .i64 (0),.str []],.int .i64 (3)],(nn 50),[]⟩⟩
def Ai:List bV:=rB::Ag
theorem PI:Shown Ai Ah:=by
 show _=_
 kernel_rfl
def Aj:bV:=⟨131,[.sl 62 0 4 3 none,.fn (.func 115) [] []],(nn 62++[some (.cells [.str [116,105,109,101],.int .i64 (95800),.str [],.str [110,111,110,101],.int .i64 (0),.str [68,78,70],.str [116,105,109,101],.int .i64 (95800),.str [],.str [116,105,109,101],.int .i64 (97200),.str []] 49)]),⟨.ao [],(nn 62++[some (.cells [.str [116,105,109,101],.int .i64 (95800),.str [],.str [116,105,109,101],.int .i64 (95800),.str [],.str [116,105,109,101],.int .i64 (97200),.str [],.str [110,111,110,101],.int .i64 (0),.str [68,78,70]] 49)]),[62,62,62,62]⟩⟩
def Ak:List bV:=Ah::Ai
theorem PJ:Shown Ak Aj:=by
 show _=_
 kernel_rfl
end Go.Ab.Ch1
