/-
  Own work: the fixed examples of chapter 1 hold: awake's contract.
-/
import Derived.Test.YtcjphdmkgmkabaaGreatDoorCh1E7
set_option maxHeartbeats 8000000
set_option maxRecDepth 20000
namespace Go.Ab.Ch1
set_option maxRecDepth 1000000
open Go.Proofs.Tryz
theorem mixed:prog.follows .mixedOrders=true:=by kernel_rfl
theorem Dg : (prog.funcs.toList.all fun fn => !(fn.name == "runtime.NumGoroutine")) = true := by kernel_rfl
theorem qB:hZ prog gl FT:=by
 intro f fi h;unfold FT sx at h;split at h
 . rename_i fn p h1 h2;refine⟨fn,p,h1,?_,h⟩;have hm:fn∈prog.funcs.toList:=by
    have:=Array.mem_of_getElem? h1;simpa using this
   have:=List.all_eq_true.1 Dg fn hm;simpa using this
 . cases h
theorem Dh:jK prog 275 .mK:=⟨⟨_,rfl,by kernel_rfl,by kernel_rfl,by kernel_rfl,by kernel_rfl⟩⟩
theorem Di:jK prog 277 .mL:=⟨⟨_,rfl,by kernel_rfl,by kernel_rfl,by kernel_rfl,by kernel_rfl⟩⟩
theorem qC:jK prog 312 .index:=⟨⟨_,rfl,by kernel_rfl,by kernel_rfl,by kernel_rfl,by kernel_rfl⟩⟩
theorem uI:jK prog 329 .count:=⟨⟨_,rfl,by kernel_rfl,by kernel_rfl,by kernel_rfl,by kernel_rfl⟩⟩
theorem uJ:cR prog gl (iM XN):=by
 refine pG ?_;intro p hp;simp only[XN,List.mem_cons,List.not_mem_nil,or_false]at hp;rcases hp with rfl|rfl|rfl|rfl
 . exact Dh
 . exact Di
 . exact qC
 . exact uI
theorem forall_nil {α:Type}{p:α->Prop}:∀x∈([]:List α),p x:=by simp
theorem forall_cons {α:Type}{p:α->Prop}{e:α}{l:List α}(h:p e)(hl:∀x∈l,p x):∀x∈e::l,p x:=by
 intro x hx;rcases List.mem_cons.1 hx with rfl|hx
 . exact h
 . exact hl x hx
theorem dv {T:List aX}(hT:∀e∈T,aS prog gl e){e:aX}(h:Shown T e):aS prog gl e:=
 BO (pC (pE mixed (tQ hT uJ) qB 100000) (tQ hT uJ) qB) h
theorem a0:∀x∈T0,aS prog gl x:=forall_nil
theorem o0:aS prog gl e0:=dv a0 h0
theorem a1:∀x∈T1,aS prog gl x:=forall_cons o0 a0
theorem o1:aS prog gl e1:=dv a1 h1
theorem a2:∀x∈T2,aS prog gl x:=forall_cons o1 a1
theorem o2:aS prog gl e2:=dv a2 h2
theorem a3:∀x∈T3,aS prog gl x:=forall_cons o2 a2
theorem o3:aS prog gl e3:=dv a3 h3
theorem a4:∀x∈T4,aS prog gl x:=forall_cons o3 a3
theorem o4:aS prog gl e4:=dv a4 h4
theorem a5:∀x∈T5,aS prog gl x:=forall_cons o4 a4
theorem o5:aS prog gl e5:=dv a5 h5
theorem a6:∀x∈T6,aS prog gl x:=forall_cons o5 a5
theorem o6:aS prog gl e6:=dv a6 h6
theorem a7:∀x∈T7,aS prog gl x:=forall_cons o6 a6
theorem o7:aS prog gl e7:=dv a7 h7
theorem a8:∀x∈T8,aS prog gl x:=forall_cons o7 a7
theorem o8:aS prog gl e8:=dv a8 h8
theorem a9:∀x∈T9,aS prog gl x:=forall_cons o8 a8
theorem o9:aS prog gl e9:=dv a9 h9
theorem a10:∀x∈pY,aS prog gl x:=forall_cons o9 a9
theorem Dj:aS prog gl pX:=dv a10 sW
theorem a11:∀x∈qa,aS prog gl x:=forall_cons Dj a10
theorem Dk:aS prog gl pZ:=dv a11 oT
theorem a12:∀x∈qc,aS prog gl x:=forall_cons Dk a11
theorem Dl:aS prog gl qb:=dv a12 CV
theorem a13:∀x∈qe,aS prog gl x:=forall_cons Dl a12
theorem Dm:aS prog gl qd:=dv a13 CW
theorem a14:∀x∈qi,aS prog gl x:=forall_cons Dm a13
theorem Dn:aS prog gl qh:=dv a14 CX
theorem a15:∀x∈qk,aS prog gl x:=forall_cons Dn a14
theorem Dp:aS prog gl qj:=dv a15 CY
theorem a16:∀x∈qn,aS prog gl x:=forall_cons Dp a15
theorem Dq:aS prog gl ql:=dv a16 CZ
theorem a17:∀x∈qq,aS prog gl x:=forall_cons Dq a16
theorem Dr:aS prog gl qo:=dv a17 Da
theorem a18:∀x∈qt,aS prog gl x:=forall_cons Dr a17
theorem Ds:aS prog gl qs:=dv a18 Db
theorem a19:∀x∈qv,aS prog gl x:=forall_cons Ds a18
theorem Dt:aS prog gl qu:=dv a19 Dc
theorem a20:∀x∈qx,aS prog gl x:=forall_cons Dt a19
theorem Du:aS prog gl qw:=dv a20 Dd
theorem a21:∀x∈qA,aS prog gl x:=forall_cons Du a20
theorem Dv:aS prog gl qy:=dv a21 De
theorem a22:∀x∈uH,aS prog gl x:=forall_cons Dv a21
theorem Dw:aS prog gl uG:=dv a22 Df
end Go.Ab.Ch1
