/-
  Own work: pieces of the evaluation of the fixed examples.
-/
import Derived.Test.YtcjphdmkgmkabaaGreatDoorCh1Base
set_option maxHeartbeats 8000000
set_option maxRecDepth 20000
namespace Go.Ab.Ch1
abbrev nn (k:Nat):ab:=List.replicate k none
set_option maxRecDepth 1000000
def e0:bH:=⟨150,[.agg [.int .i64 (6),.ae,.int .i64 (1),.ae],.agg [.int .i64 (-4),.ae,.int .i64 (1),.ae]],[],⟨.agg [.int .i64 (-3),.ae,.int .i64 (2),.ae],[],[]⟩⟩
def T0:List bH:=[]
theorem h0:Shown T0 e0:=by
 show _=_;kernel_rfl
def e1:bH:=⟨84,[.str [45,51,47,50]],[],⟨.int .i64 (0),[],[]⟩⟩
def T1:List bH:=e0::T0
theorem h1:Shown T1 e1:=by
 show _=_;kernel_rfl
def e2:bH:=⟨103,[.str [45,51,47,50]],[],⟨.agg [.int .i64 (-3),.ae,.int .i64 (2),.ae],[],[]⟩⟩
def T2:List bH:=e1::T1
theorem h2:Shown T2 e2:=by
 show _=_;kernel_rfl
end Go.Ab.Ch1
