/-
  Own work: pieces of the evaluation of the fixed examples.
-/
import Derived.Test.YtcjphdmkgmkabaaGreatDoorCh1E5
set_option maxHeartbeats 8000000
set_option maxRecDepth 20000
namespace Go.Ab.Ch1
set_option maxRecDepth 1000000
def qS:bf:=⟨124,[.str [57,46,53]],(nn 49),⟨.ar [.agg [.str [116,105,109,101],.int .i64 (95000),.str []],.int .i64 (0)],(nn 49),[]⟩⟩
def qT:List bf:=qQ::qR
theorem DZ:Shown qT qS:=by
 show _=_;kernel_rfl
def qU:bf:=⟨124,[.str [54,49,46,48,48]],(nn 50),⟨.ar [.agg [.str [],.int .i64 (0),.str []],.int .i64 (3)],(nn 50),[]⟩⟩
def qV:List bf:=qS::qT
theorem Ea:Shown qV qU:=by
 show _=_;kernel_rfl
def qW:bf:=⟨131,[.sl 62 0 4 3 none,.fn (.func 115) [] []],(nn 62++[some (.cells [.str [116,105,109,101],.int .i64 (95800),.str [],.str [110,111,110,101],.int .i64 (0),.str [68,78,70],.str [116,105,109,101],.int .i64 (95800),.str [],.str [116,105,109,101],.int .i64 (97200),.str []] 49)]),⟨.ar [],(nn 62++[some (.cells [.str [116,105,109,101],.int .i64 (95800),.str [],.str [116,105,109,101],.int .i64 (95800),.str [],.str [116,105,109,101],.int .i64 (97200),.str [],.str [110,111,110,101],.int .i64 (0),.str [68,78,70]] 49)]),[62,62,62,62]⟩⟩
def qX:List bf:=qU::qV
theorem Eb:Shown qX qW:=by
 show _=_;kernel_rfl
end Go.Ab.Ch1
