/-
  Own work: pieces of the evaluation of the fixed examples.
-/
import Derived.Test.YtmngppcmhfhgaaaGreatDoorCh5Base
set_option maxHeartbeats 8000000
set_option maxRecDepth 20000
namespace Go.Ab.Ch5
abbrev nn (k:Nat):ab:=List.replicate k none
set_option maxRecDepth 1000000
def e0:bL:=⟨70,[.agg [.int .i64 (3),.sl 2 0 6 1 (some 6)]],[none,none,some (.cells [.str [46,46,46],.str [46,97,46],.str [97,65,46],.str [46,65,98],.str [46,66,66],.str [46,66,66]] 9),none,none,none],⟨.int .i64 (0),[none,none,some (.cells [.str [46,46,46],.str [46,97,46],.str [97,65,46],.str [46,65,98],.str [46,66,66],.str [46,66,66]] 9),none,none,none],[]⟩⟩
def T0:List bL:=[]
theorem h0:Shown T0 e0:=by
 show _=_;kernel_rfl
def e1:bL:=⟨93,[.ptr 7 0,.str [49,32,46,46,46]],(nn 7++[some (.cells [.ah] 164),none]),⟨.int .i64 (0),(nn 7++[some (.cells [.sl 12 0 1 1 none] 164),none,some (.cells [.int .i64 (0),.int .i64 (0),.int .i64 (0),.int .i64 (0),.int .i64 (0)] 28),some (.cells [.str [46,46,46]] 9),some (.cells [.str [46,46,46]] 9),some (.cells [.str [46,46,46]] 9)]),[7]⟩⟩
def T1:List bL:=e0::T0
theorem h1:Shown T1 e1:=by
 show _=_;kernel_rfl
def e2:bL:=⟨93,[.ptr 7 0,.str [49,32,46,97,46]],(nn 7++[some (.cells [.sl 12 0 1 1 none] 164),none,none,none,none,some (.cells [.str [46,46,46]] 9)]),⟨.int .i64 (0),(nn 7++[some (.cells [.sl 16 0 2 1 none] 164),none,none,none,none,none,some (.cells [.int .i64 (0),.int .i64 (0),.int .i64 (0),.int .i64 (0),.int .i64 (0)] 28),some (.cells [.str [46,97,46]] 9),some (.cells [.str [46,97,46]] 9),some (.cells [.str [46,46,46],.str [46,97,46]] 9)]),[7,12]⟩⟩
def T2:List bL:=e1::T1
theorem h2:Shown T2 e2:=by
 show _=_;kernel_rfl
def e3:bL:=⟨93,[.ptr 7 0,.str [49,32,97,65,46]],(nn 7++[some (.cells [.sl 16 0 2 1 none] 164),none,none,none,none,none,none,none,none,some (.cells [.str [46,46,46],.str [46,97,46]] 9)]),⟨.int .i64 (0),(nn 7++[some (.cells [.sl 20 0 3 1 none] 164),none,none,none,none,none,none,none,none,none,some (.cells [.int .i64 (0),.int .i64 (0),.int .i64 (0),.int .i64 (0),.int .i64 (0)] 28),some (.cells [.str [97,65,46]] 9),some (.cells [.str [97,65,46]] 9),some (.cells [.str [46,46,46],.str [46,97,46],.str [97,65,46]] 9)]),[7,16]⟩⟩
def T3:List bL:=e2::T2
theorem h3:Shown T3 e3:=by
 show _=_;kernel_rfl
def e4:bL:=⟨93,[.ptr 7 0,.str [49,32,46,65,98]],(nn 7++[some (.cells [.sl 20 0 3 1 none] 164),none,none,none,none,none,none,none,none,none,none,none,none,some (.cells [.str [46,46,46],.str [46,97,46],.str [97,65,46]] 9)]),⟨.int .i64 (0),(nn 7++[some (.cells [.sl 24 0 4 1 none] 164),none,none,none,none,none,none,none,none,none,none,none,none,none,some (.cells [.int .i64 (0),.int .i64 (0),.int .i64 (0),.int .i64 (0),.int .i64 (0)] 28),some (.cells [.str [46,65,98]] 9),some (.cells [.str [46,65,98]] 9),some (.cells [.str [46,46,46],.str [46,97,46],.str [97,65,46],.str [46,65,98]] 9)]),[7,20]⟩⟩
def T4:List bL:=e3::T3
theorem h4:Shown T4 e4:=by
 show _=_;kernel_rfl
end Go.Ab.Ch5
