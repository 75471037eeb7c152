/-
  Own work: the fixed examples of chapter 1 hold: awake's contract.
-/
import Derived.Test.YtcjphdmkgmkabaaGreatDoorCh1E7
set_option maxHeartbeats 8000000
namespace Go.Ab.Ch1
set_option maxRecDepth 1000000
open Go.Proofs.Tryz
theorem mixed:prog.follows .mixedOrders=true:=by kernel_rfl
theorem PM : (prog.funcs.toList.all fun fn => !(fn.name == "runtime.NumGoroutine")) = true := by kernel_rfl
theorem An:lC prog gl FT:=by
 intro f fi h
 unfold FT DU at h
 split at h
 . rename_i fn p h1 h2
   refine⟨fn,p,h1,?_,h⟩
   have hm:fn∈prog.funcs.toList:=by
    have:=Array.mem_of_getElem? h1
    simpa using this
   have:=List.all_eq_true.1 PM fn hm
   simpa using this
 . cases h
theorem Gd:mQ prog 275 .oI:=⟨⟨_,rfl,by kernel_rfl,by kernel_rfl,by kernel_rfl,by kernel_rfl⟩⟩
theorem Ge:mQ prog 277 .oJ:=⟨⟨_,rfl,by kernel_rfl,by kernel_rfl,by kernel_rfl,by kernel_rfl⟩⟩
theorem Gf:mQ prog 312 .index:=⟨⟨_,rfl,by kernel_rfl,by kernel_rfl,by kernel_rfl,by kernel_rfl⟩⟩
theorem PN:mQ prog 329 .count:=⟨⟨_,rfl,by kernel_rfl,by kernel_rfl,by kernel_rfl,by kernel_rfl⟩⟩
theorem Gg:cm prog gl (mR XN):=by
 refine yS ?_
 intro p hp
 simp only[XN,List.mem_cons,List.not_mem_nil,or_false]at hp
 rcases hp with rfl|rfl|rfl|rfl
 . exact Gd
 . exact Ge
 . exact Gf
 . exact PN
theorem forall_nil {α:Type}{p:α->Prop}:∀x∈([]:List α),p x:=by simp
theorem forall_cons {α:Type}{p:α->Prop}{e:α}{l:List α}(h:p e)(hl:∀x∈l,p x):∀x∈e::l,p x:=by
 intro x hx
 rcases List.mem_cons.1 hx with rfl|hx
 . exact h
 . exact hl x hx
theorem fv {T:List bV}(hT:∀e∈T,bN prog gl e){e:bV}(h:Shown T e):bN prog gl e:=
 Oq (yO (yQ mixed (Fl hT Gg) An 100000) (Fl hT Gg) An) h
theorem a0:∀x∈T0,bN prog gl x:=forall_nil
theorem o0:bN prog gl e0:=fv a0 h0
theorem a1:∀x∈T1,bN prog gl x:=forall_cons o0 a0
theorem o1:bN prog gl e1:=fv a1 h1
theorem a2:∀x∈T2,bN prog gl x:=forall_cons o1 a1
theorem o2:bN prog gl e2:=fv a2 h2
theorem a3:∀x∈T3,bN prog gl x:=forall_cons o2 a2
theorem o3:bN prog gl e3:=fv a3 h3
theorem a4:∀x∈T4,bN prog gl x:=forall_cons o3 a3
theorem o4:bN prog gl e4:=fv a4 h4
theorem a5:∀x∈T5,bN prog gl x:=forall_cons o4 a4
theorem o5:bN prog gl e5:=fv a5 h5
theorem a6:∀x∈T6,bN prog gl x:=forall_cons o5 a5
theorem o6:bN prog gl e6:=fv a6 h6
theorem a7:∀x∈T7,bN prog gl x:=forall_cons o6 a6
theorem o7:bN prog gl e7:=fv a7 h7
theorem a8:∀x∈T8,bN prog gl x:=forall_cons o7 a7
theorem o8:bN prog gl e8:=fv a8 h8
theorem a9:∀x∈T9,bN prog gl x:=forall_cons o8 a8
theorem o9:bN prog gl e9:=fv a9 h9
theorem a10:∀x∈zN,bN prog gl x:=forall_cons o9 a9
theorem PO:bN prog gl zM:=fv a10 Eo
theorem a11:∀x∈zQ,bN prog gl x:=forall_cons PO a10
theorem PQ:bN prog gl zO:=fv a11 yk
theorem a12:∀x∈zU,bN prog gl x:=forall_cons PQ a11
theorem PR:bN prog gl zR:=fv a12 PC
theorem a13:∀x∈zW,bN prog gl x:=forall_cons PR a12
theorem PS:bN prog gl zV:=fv a13 PD
theorem a14:∀x∈zY,bN prog gl x:=forall_cons PS a13
theorem PT:bN prog gl zX:=fv a14 PE
theorem a15:∀x∈Aa,bN prog gl x:=forall_cons PT a14
theorem PU:bN prog gl zZ:=fv a15 PF
theorem a16:∀x∈Ad,bN prog gl x:=forall_cons PU a15
theorem PV:bN prog gl Ac:=fv a16 PG
theorem a17:∀x∈Af,bN prog gl x:=forall_cons PV a16
theorem PW:bN prog gl Ae:=fv a17 PH
theorem a18:∀x∈Ag,bN prog gl x:=forall_cons PW a17
theorem PX:bN prog gl rB:=fv a18 ux
theorem a19:∀x∈Ai,bN prog gl x:=forall_cons PX a18
theorem PY:bN prog gl Ah:=fv a19 PI
theorem a20:∀x∈Ak,bN prog gl x:=forall_cons PY a19
theorem PZ:bN prog gl Aj:=fv a20 PJ
theorem a21:∀x∈Am,bN prog gl x:=forall_cons PZ a20
theorem Qa:bN prog gl Al:=fv a21 PK
theorem a22:∀x∈Gc,bN prog gl x:=forall_cons Qa a21
theorem Qb:bN prog gl Gb:=fv a22 PL
end Go.Ab.Ch1
