/-
  Own work: the fixed examples of chapter 1 hold: awake's contract.
-/
import Derived.Test.YtcjphdmkgmkabaaGreatDoorCh1E7
set_option maxHeartbeats 8000000
set_option maxRecDepth 20000
namespace Go.Ab.Ch1
set_option maxRecDepth 1000000
open Go.Proofs.Tryz
theorem mixed:prog.follows .mixedOrders=true:=by kernel_rfl
theorem Qp : (prog.funcs.toList.all fun fn => !(fn.name == "runtime.NumGoroutine")) = true := by kernel_rfl
theorem zG:kr prog gl FT:=by
 intro f fi h;unfold FT DR at h;split at h
 . rename_i fn p h1 h2;refine⟨fn,p,h1,?_,h⟩;have hm:fn∈prog.funcs.toList:=by
    have:=Array.mem_of_getElem? h1;simpa using this
   have:=List.all_eq_true.1 Qp fn hm;simpa using this
 . cases h
theorem Qq:pZ prog 275 .nw:=⟨⟨_,rfl,by kernel_rfl,by kernel_rfl,by kernel_rfl,by kernel_rfl⟩⟩
theorem Qr:pZ prog 277 .ny:=⟨⟨_,rfl,by kernel_rfl,by kernel_rfl,by kernel_rfl,by kernel_rfl⟩⟩
theorem Qs:pZ prog 312 .index:=⟨⟨_,rfl,by kernel_rfl,by kernel_rfl,by kernel_rfl,by kernel_rfl⟩⟩
theorem Qt:pZ prog 329 .count:=⟨⟨_,rfl,by kernel_rfl,by kernel_rfl,by kernel_rfl,by kernel_rfl⟩⟩
theorem FZ:dg prog gl (nz XN):=by
 refine Fe ?_;intro p hp;simp only[XN,List.mem_cons,List.not_mem_nil,or_false]at hp;rcases hp with rfl|rfl|rfl|rfl
 . exact Qq
 . exact Qr
 . exact Qs
 . exact Qt
theorem forall_nil {α:Type}{p:α->Prop}:∀x∈([]:List α),p x:=by simp
theorem forall_cons {α:Type}{p:α->Prop}{e:α}{l:List α}(h:p e)(hl:∀x∈l,p x):∀x∈e::l,p x:=by
 intro x hx;rcases List.mem_cons.1 hx with rfl|hx
 . exact h
 . exact hl x hx
theorem eT {T:List bH}(hT:∀e∈T,bz prog gl e){e:bH}(h:Shown T e):bz prog gl e:=
 Pb (yt (yw mixed (Fj hT FZ) zG 100000) (Fj hT FZ) zG) h
theorem a0:∀x∈T0,bz prog gl x:=forall_nil
theorem o0:bz prog gl e0:=eT a0 h0
theorem a1:∀x∈T1,bz prog gl x:=forall_cons o0 a0
theorem o1:bz prog gl e1:=eT a1 h1
theorem a2:∀x∈T2,bz prog gl x:=forall_cons o1 a1
theorem o2:bz prog gl e2:=eT a2 h2
theorem a3:∀x∈T3,bz prog gl x:=forall_cons o2 a2
theorem o3:bz prog gl e3:=eT a3 h3
theorem a4:∀x∈T4,bz prog gl x:=forall_cons o3 a3
theorem o4:bz prog gl e4:=eT a4 h4
theorem a5:∀x∈T5,bz prog gl x:=forall_cons o4 a4
theorem o5:bz prog gl e5:=eT a5 h5
theorem a6:∀x∈T6,bz prog gl x:=forall_cons o5 a5
theorem o6:bz prog gl e6:=eT a6 h6
theorem a7:∀x∈T7,bz prog gl x:=forall_cons o6 a6
theorem o7:bz prog gl e7:=eT a7 h7
theorem a8:∀x∈T8,bz prog gl x:=forall_cons o7 a7
theorem o8:bz prog gl e8:=eT a8 h8
theorem a9:∀x∈T9,bz prog gl x:=forall_cons o8 a8
theorem o9:bz prog gl e9:=eT a9 h9
theorem a10:∀x∈yQ,bz prog gl x:=forall_cons o9 a9
theorem Qu:bz prog gl yP:=eT a10 xO
theorem a11:∀x∈yS,bz prog gl x:=forall_cons Qu a10
theorem Qv:bz prog gl yR:=eT a11 xP
theorem a12:∀x∈yU,bz prog gl x:=forall_cons Qv a11
theorem Qw:bz prog gl yT:=eT a12 Qg
theorem a13:∀x∈yW,bz prog gl x:=forall_cons Qw a12
theorem Qx:bz prog gl yV:=eT a13 Qh
theorem a14:∀x∈yY,bz prog gl x:=forall_cons Qx a13
theorem Qy:bz prog gl yX:=eT a14 Qi
theorem a15:∀x∈zh,bz prog gl x:=forall_cons Qy a14
theorem Qz:bz prog gl yZ:=eT a15 Qj
theorem a16:∀x∈zk,bz prog gl x:=forall_cons Qz a15
theorem QA:bz prog gl zj:=eT a16 Qk
theorem a17:∀x∈zy,bz prog gl x:=forall_cons QA a16
theorem QB:bz prog gl zo:=eT a17 Ql
theorem a18:∀x∈zA,bz prog gl x:=forall_cons QB a17
theorem QC:bz prog gl zz:=eT a18 tL
theorem a19:∀x∈zC,bz prog gl x:=forall_cons QC a18
theorem QD:bz prog gl zB:=eT a19 Qm
theorem a20:∀x∈nO,bz prog gl x:=forall_cons QD a19
theorem QE:bz prog gl kJ:=eT a20 zD
theorem a21:∀x∈zF,bz prog gl x:=forall_cons QE a20
theorem QF:bz prog gl zE:=eT a21 Qn
theorem a22:∀x∈FY,bz prog gl x:=forall_cons QF a21
theorem QG:bz prog gl FX:=eT a22 Qo
end Go.Ab.Ch1
