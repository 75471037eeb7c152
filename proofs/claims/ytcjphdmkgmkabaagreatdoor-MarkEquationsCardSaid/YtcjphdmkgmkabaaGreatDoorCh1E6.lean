import Derived.Test.YtcjphdmkgmkabaaGreatDoorCh1E5
set_option maxHeartbeats 8000000
set_option maxRecDepth 20000
namespace Go.Ab.Ch1
set_option maxRecDepth 1000000
def tB:cm:=⟨124,[.str [57,46,53]],(nn 49),⟨.au [.agg [.str [116,105,109,101],.int .i64 (95000),.str []],.int .i64 (0)],(nn 49),[]⟩⟩
def DX:List cm:=DV::DW
theorem xE:Shown DX tB:=by
 show _=_;kernel_rfl
def DY:cm:=⟨124,[.str [54,49,46,48,48]],(nn 50),⟨.au [.agg [.str [],.int .i64 (0),.str []],.int .i64 (3)],(nn 50),[]⟩⟩
def DZ:List cm:=tB::DX
theorem Xq:Shown DZ DY:=by
 show _=_;kernel_rfl
def Ea:cm:=⟨131,[.sl 62 0 4 3 none,.fn (.func 115) [] []],(nn 62++[some (.cells [.str [116,105,109,101],.int .i64 (95800),.str [],.str [110,111,110,101],.int .i64 (0),.str [68,78,70],.str [116,105,109,101],.int .i64 (95800),.str [],.str [116,105,109,101],.int .i64 (97200),.str []] 49)]),⟨.au [],(nn 62++[some (.cells [.str [116,105,109,101],.int .i64 (95800),.str [],.str [116,105,109,101],.int .i64 (95800),.str [],.str [116,105,109,101],.int .i64 (97200),.str [],.str [110,111,110,101],.int .i64 (0),.str [68,78,70]] 49)]),[62,62,62,62]⟩⟩
def Eb:List cm:=DY::DZ
theorem Ec:Shown Eb Ea:=by
 show _=_;kernel_rfl
end Go.Ab.Ch1
