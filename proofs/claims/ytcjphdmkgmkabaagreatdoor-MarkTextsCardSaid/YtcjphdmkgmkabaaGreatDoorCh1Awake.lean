/-
  Own work: the fixed examples of chapter 1 hold: awake's contract.
-/
import Derived.Test.YtcjphdmkgmkabaaGreatDoorCh1E7
set_option maxHeartbeats 8000000
set_option maxRecDepth 20000
namespace Go.Ab.Ch1
set_option maxRecDepth 1000000
open Go.Proofs.Tryz
theorem mixed:prog.follows .mixedOrders=true:=by kernel_rfl
theorem Ee : (prog.funcs.toList.all fun fn => !(fn.name == "runtime.NumGoroutine")) = true := by kernel_rfl
theorem ra:iy prog gl FT:=by
 intro f fi h;unfold FT sY at h;split at h
 . rename_i fn p h1 h2;refine⟨fn,p,h1,?_,h⟩;have hm:fn∈prog.funcs.toList:=by
    have:=Array.mem_of_getElem? h1;simpa using this
   have:=List.all_eq_true.1 Ee fn hm;simpa using this
 . cases h
theorem Ef:jV prog 275 .mU:=⟨⟨_,rfl,by kernel_rfl,by kernel_rfl,by kernel_rfl,by kernel_rfl⟩⟩
theorem Eg:jV prog 277 .mV:=⟨⟨_,rfl,by kernel_rfl,by kernel_rfl,by kernel_rfl,by kernel_rfl⟩⟩
theorem rb:jV prog 312 .index:=⟨⟨_,rfl,by kernel_rfl,by kernel_rfl,by kernel_rfl,by kernel_rfl⟩⟩
theorem ve:jV prog 329 .count:=⟨⟨_,rfl,by kernel_rfl,by kernel_rfl,by kernel_rfl,by kernel_rfl⟩⟩
theorem vf:cQ prog gl (je XN):=by
 refine qf ?_;intro p hp;simp only[XN,List.mem_cons,List.not_mem_nil,or_false]at hp;rcases hp with rfl|rfl|rfl|rfl
 . exact Ef
 . exact Eg
 . exact rb
 . exact ve
theorem forall_nil {α:Type}{p:α->Prop}:∀x∈([]:List α),p x:=by simp
theorem forall_cons {α:Type}{p:α->Prop}{e:α}{l:List α}(h:p e)(hl:∀x∈l,p x):∀x∈e::l,p x:=by
 intro x hx;rcases List.mem_cons.1 hx with rfl|hx
 . exact h
 . exact hl x hx
theorem dC {T:List bf}(hT:∀e∈T,aX prog gl e){e:bf}(h:Shown T e):aX prog gl e:=
 CQ (pY (qd mixed (uo hT vf) ra 100000) (uo hT vf) ra) h
theorem a0:∀x∈T0,aX prog gl x:=forall_nil
theorem o0:aX prog gl e0:=dC a0 h0
theorem a1:∀x∈T1,aX prog gl x:=forall_cons o0 a0
theorem o1:aX prog gl e1:=dC a1 h1
theorem a2:∀x∈T2,aX prog gl x:=forall_cons o1 a1
theorem o2:aX prog gl e2:=dC a2 h2
theorem a3:∀x∈T3,aX prog gl x:=forall_cons o2 a2
theorem o3:aX prog gl e3:=dC a3 h3
theorem a4:∀x∈T4,aX prog gl x:=forall_cons o3 a3
theorem o4:aX prog gl e4:=dC a4 h4
theorem a5:∀x∈T5,aX prog gl x:=forall_cons o4 a4
theorem o5:aX prog gl e5:=dC a5 h5
theorem a6:∀x∈T6,aX prog gl x:=forall_cons o5 a5
theorem o6:aX prog gl e6:=dC a6 h6
theorem a7:∀x∈T7,aX prog gl x:=forall_cons o6 a6
theorem o7:aX prog gl e7:=dC a7 h7
theorem a8:∀x∈T8,aX prog gl x:=forall_cons o7 a7
theorem o8:aX prog gl e8:=dC a8 h8
theorem a9:∀x∈T9,aX prog gl x:=forall_cons o8 a8
theorem o9:aX prog gl e9:=dC a9 h9
theorem a10:∀x∈qD,aX prog gl x:=forall_cons o9 a9
theorem Eh:aX prog gl qC:=dC a10 tB
theorem a11:∀x∈qF,aX prog gl x:=forall_cons Eh a10
theorem Ei:aX prog gl qE:=dC a11 py
theorem a12:∀x∈qH,aX prog gl x:=forall_cons Ei a11
theorem Ej:aX prog gl qG:=dC a12 DT
theorem a13:∀x∈qJ,aX prog gl x:=forall_cons Ej a12
theorem Ek:aX prog gl qI:=dC a13 DU
theorem a14:∀x∈qL,aX prog gl x:=forall_cons Ek a13
theorem El:aX prog gl qK:=dC a14 DV
theorem a15:∀x∈qN,aX prog gl x:=forall_cons El a14
theorem Em:aX prog gl qM:=dC a15 DW
theorem a16:∀x∈qP,aX prog gl x:=forall_cons Em a15
theorem En:aX prog gl qO:=dC a16 DX
theorem a17:∀x∈qR,aX prog gl x:=forall_cons En a16
theorem Eo:aX prog gl qQ:=dC a17 DY
theorem a18:∀x∈qT,aX prog gl x:=forall_cons Eo a17
theorem Ep:aX prog gl qS:=dC a18 DZ
theorem a19:∀x∈qV,aX prog gl x:=forall_cons Ep a18
theorem Er:aX prog gl qU:=dC a19 Ea
theorem a20:∀x∈qX,aX prog gl x:=forall_cons Er a19
theorem Es:aX prog gl qW:=dC a20 Eb
theorem a21:∀x∈qZ,aX prog gl x:=forall_cons Es a20
theorem Et:aX prog gl qY:=dC a21 Ec
theorem a22:∀x∈vd,aX prog gl x:=forall_cons Et a21
theorem Eu:aX prog gl vc:=dC a22 Ed
end Go.Ab.Ch1
