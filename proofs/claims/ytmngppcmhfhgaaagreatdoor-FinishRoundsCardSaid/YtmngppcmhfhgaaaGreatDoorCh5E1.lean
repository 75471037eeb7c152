/-
  Own work: pieces of the evaluation of the fixed examples.
-/
import Derived.Test.YtmngppcmhfhgaaaGreatDoorCh5E0
set_option maxHeartbeats 8000000
set_option maxRecDepth 20000
namespace Go.Ab.Ch5
set_option maxRecDepth 1000000
def e5:bL:=⟨93,[.ptr 7 0,.str [50,32,46,66,66]],(nn 7++[some (.cells [.sl 24 0 4 1 none] 164),none,none,none,none,none,none,none,none,none,none,none,none,none,none,none,none,some (.cells [.str [46,46,46],.str [46,97,46],.str [97,65,46],.str [46,65,98]] 9)]),⟨.int .i64 (0),(nn 7++[some (.cells [.sl 28 0 6 1 none] 164),none,none,none,none,none,none,none,none,none,none,none,none,none,none,none,none,none,some (.cells [.int .i64 (0),.int .i64 (0),.int .i64 (0),.int .i64 (0),.int .i64 (0)] 28),some (.cells [.str [46,66,66]] 9),some (.cells [.str [46,66,66],.str [46,66,66]] 9),some (.cells [.str [46,46,46],.str [46,97,46],.str [97,65,46],.str [46,65,98],.str [46,66,66],.str [46,66,66]] 9)]),[7,24]⟩⟩
def T5:List bL:=e4::T4
theorem h5:Shown T5 e5:=by
 show _=_;kernel_rfl
def e6:bL:=⟨70,[.agg [.int .i64 (3),.sl 2 0 6 1 (some 6)]],[none,none,some (.cells [.str [46,46,46],.str [46,97,46],.str [97,65,46],.str [46,65,98],.str [46,66,66],.str [46,66,66]] 9),none,none,none,none,none,none,none,none,none,none,none,none,none,none,none,none,none,none,none,none,none,none,none,none,none,none,none,none],⟨.int .i64 (0),[none,none,some (.cells [.str [46,46,46],.str [46,97,46],.str [97,65,46],.str [46,65,98],.str [46,66,66],.str [46,66,66]] 9),none,none,none,none,none,none,none,none,none,none,none,none,none,none,none,none,none,none,none,none,none,none,none,none,none,none,none,none],[]⟩⟩
def T6:List bL:=e5::T5
theorem h6:Shown T6 e6:=by
 show _=_;kernel_rfl
def e7:bL:=⟨55,[.agg [.int .i64 (3),.sl 2 0 6 1 (some 6)]],[none,none,some (.cells [.str [46,46,46],.str [46,97,46],.str [97,65,46],.str [46,65,98],.str [46,66,66],.str [46,66,66]] 9),none,none,none,none,none,none,none,none,none,none,none,none,none,none,none,none,none,none,none,none,none,none,none,none,none,none,none],⟨.aw [.sl 35 0 2 1 none,.int .i64 (0)],[none,none,some (.cells [.str [46,46,46],.str [46,97,46],.str [97,65,46],.str [46,65,98],.str [46,66,66],.str [46,66,66]] 9),none,none,none,none,none,none,none,none,none,none,none,none,none,none,none,none,none,none,none,none,none,none,none,none,none,none,none,some (.cells [.int .i64 (3),.sl 2 0 6 1 (some 6)] 24),some (.cells [.int .i64 (3),.int .i64 (5),.int .i64 (0),.int .i64 (0),.int .i64 (0),.int .i64 (0),.int .i64 (0),.int .i64 (0),.int .i64 (0),.int .i64 (0),.int .i64 (0),.int .i64 (0),.int .i64 (0),.int .i64 (0),.int .i64 (0),.int .i64 (0),.int .i64 (0),.int .i64 (0),.int .i64 (0),.int .i64 (0),.int .i64 (0),.int .i64 (0),.int .i64 (0),.int .i64 (0),.int .i64 (0),.int .i64 (0)] 189),some (.cells [.str [65]] 9),none,some (.cells [.str [66]] 9),some (.cells [.str [65],.str [66]] 9)],[]⟩⟩
def T7:List bL:=e6::T6
theorem h7:Shown T7 e7:=by
 show _=_;kernel_rfl
def e8:bL:=⟨70,[.agg [.int .i64 (3),.sl 2 0 6 1 (some 6)]],[none,none,some (.cells [.str [46,46,46],.str [46,97,46],.str [97,65,46],.str [46,65,98],.str [46,66,66],.str [46,66,66]] 9),none,none,none,none,none,none,none,none,none,none,none,none,none,none,none,none,none,none,none,none,none,none,none,none,none,none,none,none,none,none,none,none,none,none],⟨.int .i64 (0),[none,none,some (.cells [.str [46,46,46],.str [46,97,46],.str [97,65,46],.str [46,65,98],.str [46,66,66],.str [46,66,66]] 9),none,none,none,none,none,none,none,none,none,none,none,none,none,none,none,none,none,none,none,none,none,none,none,none,none,none,none,none,none,none,none,none,none,none],[]⟩⟩
def T8:List bL:=e7::T7
theorem h8:Shown T8 e8:=by
 show _=_;kernel_rfl
def e9:bL:=⟨70,[.agg [.int .i64 (3),.sl 2 0 6 1 (some 6)]],[none,none,some (.cells [.str [46,46,46],.str [46,97,46],.str [97,65,46],.str [46,65,98],.str [46,66,66],.str [46,66,66]] 9),none,none,none,none,none,none,none,none,none,none,none,none,none,none,none,none,none,none,none,none,none,none,none,none,none,none,none,none,none,none,none,none,none,none,none,none],⟨.int .i64 (0),[none,none,some (.cells [.str [46,46,46],.str [46,97,46],.str [97,65,46],.str [46,65,98],.str [46,66,66],.str [46,66,66]] 9),none,none,none,none,none,none,none,none,none,none,none,none,none,none,none,none,none,none,none,none,none,none,none,none,none,none,none,none,none,none,none,none,none,none,none,none],[]⟩⟩
def T9:List bL:=e8::T8
theorem h9:Shown T9 e9:=by
 show _=_;kernel_rfl
end Go.Ab.Ch5
