import Derived.Test.YtcjphdmkgmkabaaGreatDoorCh1Base
set_option maxHeartbeats 8000000
set_option maxRecDepth 20000
namespace Go.Ab.Ch1
abbrev nn (k:Nat):aa:=List.replicate k none
set_option maxRecDepth 1000000
def e0:cm:=⟨150,[.agg [.int .i64 (6),.ab,.int .i64 (1),.ab],.agg [.int .i64 (-4),.ab,.int .i64 (1),.ab]],[],⟨.agg [.int .i64 (-3),.ab,.int .i64 (2),.ab],[],[]⟩⟩
def T0:List cm:=[]
theorem h0:Shown T0 e0:=by
 show _=_;kernel_rfl
def e1:cm:=⟨84,[.str [45,51,47,50]],[],⟨.int .i64 (0),[],[]⟩⟩
def T1:List cm:=e0::T0
theorem h1:Shown T1 e1:=by
 show _=_;kernel_rfl
def e2:cm:=⟨103,[.str [45,51,47,50]],[],⟨.agg [.int .i64 (-3),.ab,.int .i64 (2),.ab],[],[]⟩⟩
def T2:List cm:=e1::T1
theorem h2:Shown T2 e2:=by
 show _=_;kernel_rfl
end Go.Ab.Ch1
