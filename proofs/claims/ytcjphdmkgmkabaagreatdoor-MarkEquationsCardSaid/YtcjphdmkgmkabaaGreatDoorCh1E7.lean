import Derived.Test.YtcjphdmkgmkabaaGreatDoorCh1E6
set_option maxHeartbeats 8000000
set_option maxRecDepth 20000
namespace Go.Ab.Ch1
set_option maxRecDepth 1000000
def Ed:cm:=⟨49,[.sl 50 0 4 3 (some 4)],(nn 50++[some (.cells [.str [116,105,109,101],.int .i64 (95800),.str [],.str [110,111,110,101],.int .i64 (0),.str [68,78,70],.str [116,105,109,101],.int .i64 (95800),.str [],.str [116,105,109,101],.int .i64 (97200),.str []] 49)]),⟨.au [.sl 60 0 4 1 (some 4),.int .i64 (0)],(nn 50++[some (.cells [.str [116,105,109,101],.int .i64 (95800),.str [],.str [110,111,110,101],.int .i64 (0),.str [68,78,70],.str [116,105,109,101],.int .i64 (95800),.str [],.str [116,105,109,101],.int .i64 (97200),.str []] 49),some (.cells [.str [116,105,109,101],.int .i64 (97200),.str []] 49),some (.cells [.str [116,105,109,101],.int .i64 (95800),.str []] 49),some (.cells [.int .i64 (0),.int .i64 (0)] 25),some (.cells [.str [110,111,110,101],.int .i64 (0),.str [68,78,70]] 49),some (.cells [.int .i64 (0),.int .i64 (0)] 25),some (.cells [.str [116,105,109,101],.int .i64 (95800),.str []] 49),some (.cells [.int .i64 (0),.int .i64 (0)] 25),some (.cells [.str [116,105,109,101],.int .i64 (97200),.str []] 49),some (.cells [.int .i64 (0),.int .i64 (0)] 25),some (.cells [.int .i64 (1),.int .i64 (0),.int .i64 (1),.int .i64 (3)] 3),some (.cells [] 49),some (.cells [.str [116,105,109,101],.int .i64 (95800),.str [],.str [116,105,109,101],.int .i64 (95800),.str [],.str [116,105,109,101],.int .i64 (97200),.str [],.str [110,111,110,101],.int .i64 (0),.str [68,78,70]] 49),some (.cells [.str [116,105,109,101],.int .i64 (95800),.str []] 49),some (.cells [.str [110,111,110,101],.int .i64 (0),.str [68,78,70]] 49),some (.cells [.str [116,105,109,101],.int .i64 (95800),.str []] 49),some (.cells [.str [116,105,109,101],.int .i64 (97200),.str []] 49)]),[]⟩⟩
def Ee:List cm:=Ea::Eb
theorem Xr:Shown Ee Ed:=by
 show _=_;kernel_rfl
def KG:cm:=⟨18,[],[],⟨.bool true,[],[]⟩⟩
def KH:List cm:=Ed::Ee
theorem Xs:Shown KH KG:=by
 show _=_;kernel_rfl
end Go.Ab.Ch1
