/-
  Own work: the fixed examples of chapter 1 hold: awake's contract.
-/
import Derived.Test.YtcjphdmkgmkabaaGreatDoorCh1E7
set_option maxHeartbeats 8000000
set_option maxRecDepth 20000
namespace Go.Ab.Ch1
set_option maxRecDepth 1000000
open Go.Proofs.Tryz
theorem mixed:prog.follows .mixedOrders=true:=by kernel_rfl
theorem SE : (prog.funcs.toList.all fun fn => !(fn.name == "runtime.NumGoroutine")) = true := by kernel_rfl
theorem Bw:mq prog gl FT:=by
 intro f fi h;unfold FT FA at h;split at h
 . rename_i fn p h1 h2;refine⟨fn,p,h1,?_,h⟩;have hm:fn∈prog.funcs.toList:=by
    have:=Array.mem_of_getElem? h1;simpa using this
   have:=List.all_eq_true.1 SE fn hm;simpa using this
 . cases h
theorem Hu:nE prog 275 .py:=⟨⟨_,rfl,by kernel_rfl,by kernel_rfl,by kernel_rfl,by kernel_rfl⟩⟩
theorem Hv:nE prog 277 .pz:=⟨⟨_,rfl,by kernel_rfl,by kernel_rfl,by kernel_rfl,by kernel_rfl⟩⟩
theorem Hw:nE prog 312 .index:=⟨⟨_,rfl,by kernel_rfl,by kernel_rfl,by kernel_rfl,by kernel_rfl⟩⟩
theorem SF:nE prog 329 .count:=⟨⟨_,rfl,by kernel_rfl,by kernel_rfl,by kernel_rfl,by kernel_rfl⟩⟩
theorem Hx:cA prog gl (nF XN):=by
 refine Az ?_;intro p hp;simp only[XN,List.mem_cons,List.not_mem_nil,or_false]at hp;rcases hp with rfl|rfl|rfl|rfl
 . exact Hu
 . exact Hv
 . exact Hw
 . exact SF
theorem forall_nil {α:Type}{p:α->Prop}:∀x∈([]:List α),p x:=by simp
theorem forall_cons {α:Type}{p:α->Prop}{e:α}{l:List α}(h:p e)(hl:∀x∈l,p x):∀x∈e::l,p x:=by
 intro x hx;rcases List.mem_cons.1 hx with rfl|hx
 . exact h
 . exact hl x hx
theorem fp {T:List cf}(hT:∀e∈T,bQ prog gl e){e:cf}(h:Shown T e):bQ prog gl e:=
 Rm (Av (Ax mixed (GL hT Hx) Bw 100000) (GL hT Hx) Bw) h
theorem a0:∀x∈T0,bQ prog gl x:=forall_nil
theorem o0:bQ prog gl e0:=fp a0 h0
theorem a1:∀x∈T1,bQ prog gl x:=forall_cons o0 a0
theorem o1:bQ prog gl e1:=fp a1 h1
theorem a2:∀x∈T2,bQ prog gl x:=forall_cons o1 a1
theorem o2:bQ prog gl e2:=fp a2 h2
theorem a3:∀x∈T3,bQ prog gl x:=forall_cons o2 a2
theorem o3:bQ prog gl e3:=fp a3 h3
theorem a4:∀x∈T4,bQ prog gl x:=forall_cons o3 a3
theorem o4:bQ prog gl e4:=fp a4 h4
theorem a5:∀x∈T5,bQ prog gl x:=forall_cons o4 a4
theorem o5:bQ prog gl e5:=fp a5 h5
theorem a6:∀x∈T6,bQ prog gl x:=forall_cons o5 a5
theorem o6:bQ prog gl e6:=fp a6 h6
theorem a7:∀x∈T7,bQ prog gl x:=forall_cons o6 a6
theorem o7:bQ prog gl e7:=fp a7 h7
theorem a8:∀x∈T8,bQ prog gl x:=forall_cons o7 a7
theorem o8:bQ prog gl e8:=fp a8 h8
theorem a9:∀x∈T9,bQ prog gl x:=forall_cons o8 a8
theorem o9:bQ prog gl e9:=fp a9 h9
theorem a10:∀x∈AY,bQ prog gl x:=forall_cons o9 a9
theorem SG:bQ prog gl AX:=fp a10 FX
theorem a11:∀x∈Ba,bQ prog gl x:=forall_cons SG a10
theorem SH:bQ prog gl AZ:=fp a11 zQ
theorem a12:∀x∈Bc,bQ prog gl x:=forall_cons SH a11
theorem SI:bQ prog gl Bb:=fp a12 Su
theorem a13:∀x∈Bf,bQ prog gl x:=forall_cons SI a12
theorem SJ:bQ prog gl Be:=fp a13 Sv
theorem a14:∀x∈Bh,bQ prog gl x:=forall_cons SJ a13
theorem SK:bQ prog gl Bg:=fp a14 Sw
theorem a15:∀x∈Bj,bQ prog gl x:=forall_cons SK a14
theorem SL:bQ prog gl Bi:=fp a15 Sx
theorem a16:∀x∈Bl,bQ prog gl x:=forall_cons SL a15
theorem SM:bQ prog gl Bk:=fp a16 Sy
theorem a17:∀x∈Bn,bQ prog gl x:=forall_cons SM a16
theorem SN:bQ prog gl Bm:=fp a17 Sz
theorem a18:∀x∈Bo,bQ prog gl x:=forall_cons SN a17
theorem SO:bQ prog gl rH:=fp a18 uK
theorem a19:∀x∈Br,bQ prog gl x:=forall_cons SO a18
theorem SP:bQ prog gl Bp:=fp a19 SA
theorem a20:∀x∈Bt,bQ prog gl x:=forall_cons SP a19
theorem SR:bQ prog gl Bs:=fp a20 SB
theorem a21:∀x∈Bv,bQ prog gl x:=forall_cons SR a20
theorem SS:bQ prog gl Bu:=fp a21 SC
theorem a22:∀x∈Ht,bQ prog gl x:=forall_cons SS a21
theorem SU:bQ prog gl Hs:=fp a22 SD
end Go.Ab.Ch1
