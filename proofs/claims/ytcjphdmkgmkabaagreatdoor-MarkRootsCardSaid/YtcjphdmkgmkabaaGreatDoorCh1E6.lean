/-
  Own work: pieces of the evaluation of the fixed examples.
-/
import Derived.Test.YtcjphdmkgmkabaaGreatDoorCh1E5
set_option maxHeartbeats 8000000
set_option maxRecDepth 20000
namespace Go.Ab.Ch1
set_option maxRecDepth 1000000
def zz:bH:=⟨124,[.str [57,46,53]],(nn 49),⟨.aq [.agg [.str [116,105,109,101],.int .i64 (95000),.str []],.int .i64 (0)],(nn 49),[]⟩⟩
def zA:List bH:=zo::zy
theorem tL:Shown zA zz:=by
 show _=_;kernel_rfl
def zB:bH:=⟨124,[.str [54,49,46,48,48]],(nn 50),⟨.aq [.agg [.str [],.int .i64 (0),.str []],.int .i64 (3)],(nn 50),[]⟩⟩
def zC:List bH:=zz::zA
theorem Qm:Shown zC zB:=by
 show _=_;kernel_rfl
def kJ:bH:=⟨131,[.sl 62 0 4 3 none,.fn (.func 115) [] []],(nn 62++[some (.cells [.str [116,105,109,101],.int .i64 (95800),.str [],.str [110,111,110,101],.int .i64 (0),.str [68,78,70],.str [116,105,109,101],.int .i64 (95800),.str [],.str [116,105,109,101],.int .i64 (97200),.str []] 49)]),⟨.aq [],(nn 62++[some (.cells [.str [116,105,109,101],.int .i64 (95800),.str [],.str [116,105,109,101],.int .i64 (95800),.str [],.str [116,105,109,101],.int .i64 (97200),.str [],.str [110,111,110,101],.int .i64 (0),.str [68,78,70]] 49)]),[62,62,62,62]⟩⟩
def nO:List bH:=zB::zC
theorem zD:Shown nO kJ:=by
 show _=_;kernel_rfl
end Go.Ab.Ch1
