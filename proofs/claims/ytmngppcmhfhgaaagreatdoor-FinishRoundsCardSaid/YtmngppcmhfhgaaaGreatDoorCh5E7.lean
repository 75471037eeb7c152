/-
  Own work: pieces of the evaluation of the fixed examples.
-/
import Derived.Test.YtmngppcmhfhgaaaGreatDoorCh5E6
set_option maxHeartbeats 8000000
set_option maxRecDepth 20000
namespace Go.Ab.Ch5
set_option maxRecDepth 1000000
def Dg:bL:=⟨37,[.agg [.int .i64 (3),.sl 2 0 6 1 (some 6)],.agg [.str [49,48,48,48,48,48],.str [53]],.str [101,120,97,99,116]],[none,none,some (.cells [.str [46,46,46],.str [46,97,46],.str [97,65,46],.str [46,65,98],.str [46,66,66],.str [46,66,66]] 9),none,none,none,none,none,none,none,none,none,none,none,none,none,none,none,none,none,none,none,none,none,none,none,none,none,none,none,none,none,none,none,none,none,none,none,none,none,none,none],⟨.aw [.sl 53 0 2 5 none,.int .i64 (0)],[none,none,some (.cells [.str [46,46,46],.str [46,97,46],.str [97,65,46],.str [46,65,98],.str [46,66,66],.str [46,66,66]] 9),none,none,none,none,none,none,none,none,none,none,none,none,none,none,none,none,none,none,none,none,none,none,none,none,none,none,none,none,none,none,none,none,none,none,none,none,none,none,none,some (.cells [.int .i64 (3),.sl 2 0 6 1 (some 6)] 24),some (.cells [.str [49,48,48,48,48,48],.str [53]] 42),some (.cells [.int .i64 (0),.int .i64 (0),.int .i64 (0)] 28),some (.cells [.int .i64 (100000),.ah,.int .i64 (1),.ah,.int .i64 (5),.ah,.int .i64 (1),.ah] 177),some (.cells [.int .i64 (100010),.ah,.int .i64 (1),.ah,.int .i64 (100015),.ah,.int .i64 (1),.ah] 175),some (.cells [.str [116,105,109,101],.int .i64 (100015),.str []] 58),some (.cells [.str [65],.int .i64 (0),.str [116,105,109,101],.int .i64 (100015),.str []] 75),none,some (.cells [.int .i64 (100020),.ah,.int .i64 (1),.ah,.int .i64 (100025),.ah,.int .i64 (1),.ah] 175),some (.cells [.str [116,105,109,101],.int .i64 (100025),.str []] 58),some (.cells [.str [66],.int .i64 (0),.str [116,105,109,101],.int .i64 (100025),.str []] 75),some (.cells [.str [65],.int .i64 (1),.str [116,105,109,101],.int .i64 (100015),.str [],.str [66],.int .i64 (2),.str [116,105,109,101],.int .i64 (100025),.str []] 75)],[]⟩⟩
def Dh:List bL:=De::Df
theorem Uu:Shown Dh Dg:=by
 show _=_;kernel_rfl
def Di:bL:=⟨107,[.agg [.str [49],.str [50]]],(nn 56),⟨.aw [.agg [.int .i64 (1),.ah,.int .i64 (1),.ah,.int .i64 (2),.ah,.int .i64 (1),.ah],.int .i64 (0)],(nn 56),[]⟩⟩
def Dj:List bL:=Dg::Dh
theorem Uv:Shown Dj Di:=by
 show _=_;kernel_rfl
def Dk:bL:=⟨107,[.agg [.str [49],.str [50]]],(nn 60),⟨.aw [.agg [.int .i64 (1),.ah,.int .i64 (1),.ah,.int .i64 (2),.ah,.int .i64 (1),.ah],.int .i64 (0)],(nn 60),[]⟩⟩
def Dl:List bL:=Di::Dj
theorem Uw:Shown Dl Dk:=by
 show _=_;kernel_rfl
def Dm:bL:=⟨107,[.agg [.str [50],.str [52]]],(nn 64),⟨.aw [.agg [.int .i64 (2),.ah,.int .i64 (1),.ah,.int .i64 (4),.ah,.int .i64 (1),.ah],.int .i64 (0)],(nn 64),[]⟩⟩
def Dn:List bL:=Dk::Dl
theorem Ux:Shown Dn Dm:=by
 show _=_;kernel_rfl
def Dp:bL:=⟨51,[.sl 54 0 3 2 (some 3)],(nn 54++[some (.cells [.str [49],.str [50],.str [49],.str [50],.str [50],.str [52]] 44)]),⟨.aw [.sl 68 0 1 2 none,.int .i64 (0)],(nn 54++[some (.cells [.str [49],.str [50],.str [49],.str [50],.str [50],.str [52]] 44),some (.cells [.str [49],.str [50]] 44),some (.cells [.int .i64 (1),.ah,.int .i64 (1),.ah,.int .i64 (2),.ah,.int .i64 (1),.ah] 175),some (.cells [.int .i64 (1),.ah,.int .i64 (1),.ah,.int .i64 (2),.ah,.int .i64 (1),.ah] 175),none,some (.cells [.str [49],.str [50]] 44),some (.cells [.int .i64 (1),.ah,.int .i64 (1),.ah,.int .i64 (2),.ah,.int .i64 (1),.ah] 175),some (.cells [.int .i64 (1),.ah,.int .i64 (1),.ah,.int .i64 (2),.ah,.int .i64 (1),.ah] 175),none,some (.cells [.str [50],.str [52]] 44),some (.cells [.int .i64 (2),.ah,.int .i64 (1),.ah,.int .i64 (4),.ah,.int .i64 (1),.ah] 175),some (.cells [.int .i64 (2),.ah,.int .i64 (1),.ah,.int .i64 (4),.ah,.int .i64 (1),.ah] 175),some (.cells [.int .i64 (1),.ah,.int .i64 (1),.ah,.int .i64 (2),.ah,.int .i64 (1),.ah,.int .i64 (1),.ah,.int .i64 (1),.ah,.int .i64 (2),.ah,.int .i64 (1),.ah,.int .i64 (2),.ah,.int .i64 (1),.ah,.int .i64 (4),.ah,.int .i64 (1),.ah] 175),some (.cells [.int .i64 (0),.int .i64 (1)] 77),some (.cells [.int .i64 (0),.int .i64 (1)] 77)]),[]⟩⟩
def Dr:List bL:=Dm::Dn
theorem Uy:Shown Dr Dp:=by
 show _=_;kernel_rfl
end Go.Ab.Ch5
