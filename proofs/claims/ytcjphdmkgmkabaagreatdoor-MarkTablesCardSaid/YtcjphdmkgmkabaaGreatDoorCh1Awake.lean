/-
  Own work: the fixed examples of chapter 1 hold: awake's contract.
-/
import Derived.Test.YtcjphdmkgmkabaaGreatDoorCh1E7
set_option maxHeartbeats 8000000
set_option maxRecDepth 20000
namespace Go.Ab.Ch1
set_option maxRecDepth 1000000
open Go.Proofs.Tryz
theorem mixed:prog.follows .mixedOrders=true:=by kernel_rfl
theorem Vl : (prog.funcs.toList.all fun fn => !(fn.name == "runtime.NumGoroutine")) = true := by kernel_rfl
theorem CW:mD prog gl FT:=by
 intro f fi h;unfold FT Hp at h;split at h
 . rename_i fn p h1 h2;refine⟨fn,p,h1,?_,h⟩;have hm:fn∈prog.funcs.toList:=by
    have:=Array.mem_of_getElem? h1;simpa using this
   have:=List.all_eq_true.1 Vl fn hm;simpa using this
 . cases h
theorem Jj:nT prog 275 .pR:=⟨⟨_,rfl,by kernel_rfl,by kernel_rfl,by kernel_rfl,by kernel_rfl⟩⟩
theorem Jk:nT prog 277 .pS:=⟨⟨_,rfl,by kernel_rfl,by kernel_rfl,by kernel_rfl,by kernel_rfl⟩⟩
theorem Jl:nT prog 312 .index:=⟨⟨_,rfl,by kernel_rfl,by kernel_rfl,by kernel_rfl,by kernel_rfl⟩⟩
theorem Vm:nT prog 329 .count:=⟨⟨_,rfl,by kernel_rfl,by kernel_rfl,by kernel_rfl,by kernel_rfl⟩⟩
theorem Jm:cf prog gl (nU XN):=by
 refine BK ?_;intro p hp;simp only[XN,List.mem_cons,List.not_mem_nil,or_false]at hp;rcases hp with rfl|rfl|rfl|rfl
 . exact Jj
 . exact Jk
 . exact Jl
 . exact Vm
theorem forall_nil {α:Type}{p:α->Prop}:∀x∈([]:List α),p x:=by simp
theorem forall_cons {α:Type}{p:α->Prop}{e:α}{l:List α}(h:p e)(hl:∀x∈l,p x):∀x∈e::l,p x:=by
 intro x hx;rcases List.mem_cons.1 hx with rfl|hx
 . exact h
 . exact hl x hx
theorem fC {T:List bW}(hT:∀e∈T,bN prog gl e){e:bW}(h:Shown T e):bN prog gl e:=
 TE (BG (BI mixed (Ix hT Jm) CW 100000) (Ix hT Jm) CW) h
theorem a0:∀x∈T0,bN prog gl x:=forall_nil
theorem o0:bN prog gl e0:=fC a0 h0
theorem a1:∀x∈T1,bN prog gl x:=forall_cons o0 a0
theorem o1:bN prog gl e1:=fC a1 h1
theorem a2:∀x∈T2,bN prog gl x:=forall_cons o1 a1
theorem o2:bN prog gl e2:=fC a2 h2
theorem a3:∀x∈T3,bN prog gl x:=forall_cons o2 a2
theorem o3:bN prog gl e3:=fC a3 h3
theorem a4:∀x∈T4,bN prog gl x:=forall_cons o3 a3
theorem o4:bN prog gl e4:=fC a4 h4
theorem a5:∀x∈T5,bN prog gl x:=forall_cons o4 a4
theorem o5:bN prog gl e5:=fC a5 h5
theorem a6:∀x∈T6,bN prog gl x:=forall_cons o5 a5
theorem o6:bN prog gl e6:=fC a6 h6
theorem a7:∀x∈T7,bN prog gl x:=forall_cons o6 a6
theorem o7:bN prog gl e7:=fC a7 h7
theorem a8:∀x∈T8,bN prog gl x:=forall_cons o7 a7
theorem o8:bN prog gl e8:=fC a8 h8
theorem a9:∀x∈T9,bN prog gl x:=forall_cons o8 a8
theorem o9:bN prog gl e9:=fC a9 h9
theorem a10:∀x∈Co,bN prog gl x:=forall_cons o9 a9
theorem Vn:bN prog gl Cn:=fC a10 Bf
theorem a11:∀x∈Cq,bN prog gl x:=forall_cons Vn a10
theorem Vo:bN prog gl Cp:=fC a11 rU
theorem a12:∀x∈Cs,bN prog gl x:=forall_cons Vo a11
theorem Vp:bN prog gl Cr:=fC a12 Vc
theorem a13:∀x∈Cu,bN prog gl x:=forall_cons Vp a12
theorem Vq:bN prog gl Ct:=fC a13 Vd
theorem a14:∀x∈Cw,bN prog gl x:=forall_cons Vq a13
theorem Vr:bN prog gl Cv:=fC a14 Ve
theorem a15:∀x∈Cz,bN prog gl x:=forall_cons Vr a14
theorem Vs:bN prog gl Cy:=fC a15 Vf
theorem a16:∀x∈CB,bN prog gl x:=forall_cons Vs a15
theorem Vt:bN prog gl CA:=fC a16 Vg
theorem a17:∀x∈CE,bN prog gl x:=forall_cons Vt a16
theorem Vu:bN prog gl CC:=fC a17 Vh
theorem a18:∀x∈CH,bN prog gl x:=forall_cons Vu a17
theorem Vv:bN prog gl sv:=fC a18 wu
theorem a19:∀x∈CL,bN prog gl x:=forall_cons Vv a18
theorem Vw:bN prog gl CK:=fC a19 Vi
theorem a20:∀x∈CN,bN prog gl x:=forall_cons Vw a19
theorem Vx:bN prog gl CM:=fC a20 CO
theorem a21:∀x∈CV,bN prog gl x:=forall_cons Vx a20
theorem Vy:bN prog gl CP:=fC a21 Vj
theorem a22:∀x∈Ji,bN prog gl x:=forall_cons Vy a21
theorem Vz:bN prog gl Jh:=fC a22 Vk
end Go.Ab.Ch1
