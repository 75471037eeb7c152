/-
  Own work: the fixed examples of chapter 1 hold: awake's contract.
-/
import Derived.Test.YtcjphdmkgmkabaaGreatDoorCh1E7
set_option maxHeartbeats 8000000
set_option maxRecDepth 20000
namespace Go.Ab.Ch1
set_option maxRecDepth 1000000
open Go.Proofs.Tryz
theorem mixed:prog.follows .mixedOrders=true:=by kernel_rfl
theorem Ua : (prog.funcs.toList.all fun fn => !(fn.name == "runtime.NumGoroutine")) = true := by kernel_rfl
theorem Ca:mq prog gl FT:=by
 intro f fi h;unfold FT GD at h;split at h
 . rename_i fn p h1 h2;refine⟨fn,p,h1,?_,h⟩;have hm:fn∈prog.funcs.toList:=by
    have:=Array.mem_of_getElem? h1;simpa using this
   have:=List.all_eq_true.1 Ua fn hm;simpa using this
 . cases h
theorem Iw:nG prog 275 .pI:=⟨⟨_,rfl,by kernel_rfl,by kernel_rfl,by kernel_rfl,by kernel_rfl⟩⟩
theorem Ix:nG prog 277 .pJ:=⟨⟨_,rfl,by kernel_rfl,by kernel_rfl,by kernel_rfl,by kernel_rfl⟩⟩
theorem Iy:nG prog 312 .index:=⟨⟨_,rfl,by kernel_rfl,by kernel_rfl,by kernel_rfl,by kernel_rfl⟩⟩
theorem Ub:nG prog 329 .count:=⟨⟨_,rfl,by kernel_rfl,by kernel_rfl,by kernel_rfl,by kernel_rfl⟩⟩
theorem Iz:cz prog gl (nH XN):=by
 refine Bc ?_;intro p hp;simp only[XN,List.mem_cons,List.not_mem_nil,or_false]at hp;rcases hp with rfl|rfl|rfl|rfl
 . exact Iw
 . exact Ix
 . exact Iy
 . exact Ub
theorem forall_nil {α:Type}{p:α->Prop}:∀x∈([]:List α),p x:=by simp
theorem forall_cons {α:Type}{p:α->Prop}{e:α}{l:List α}(h:p e)(hl:∀x∈l,p x):∀x∈e::l,p x:=by
 intro x hx;rcases List.mem_cons.1 hx with rfl|hx
 . exact h
 . exact hl x hx
theorem fB {T:List ck}(hT:∀e∈T,bT prog gl e){e:ck}(h:Shown T e):bT prog gl e:=
 SF (AY (Ba mixed (HK hT Iz) Ca 100000) (HK hT Iz) Ca) h
theorem a0:∀x∈T0,bT prog gl x:=forall_nil
theorem o0:bT prog gl e0:=fB a0 h0
theorem a1:∀x∈T1,bT prog gl x:=forall_cons o0 a0
theorem o1:bT prog gl e1:=fB a1 h1
theorem a2:∀x∈T2,bT prog gl x:=forall_cons o1 a1
theorem o2:bT prog gl e2:=fB a2 h2
theorem a3:∀x∈T3,bT prog gl x:=forall_cons o2 a2
theorem o3:bT prog gl e3:=fB a3 h3
theorem a4:∀x∈T4,bT prog gl x:=forall_cons o3 a3
theorem o4:bT prog gl e4:=fB a4 h4
theorem a5:∀x∈T5,bT prog gl x:=forall_cons o4 a4
theorem o5:bT prog gl e5:=fB a5 h5
theorem a6:∀x∈T6,bT prog gl x:=forall_cons o5 a5
theorem o6:bT prog gl e6:=fB a6 h6
theorem a7:∀x∈T7,bT prog gl x:=forall_cons o6 a6
theorem o7:bT prog gl e7:=fB a7 h7
theorem a8:∀x∈T8,bT prog gl x:=forall_cons o7 a7
theorem o8:bT prog gl e8:=fB a8 h8
theorem a9:∀x∈T9,bT prog gl x:=forall_cons o8 a8
theorem o9:bT prog gl e9:=fB a9 h9
theorem a10:∀x∈BA,bT prog gl x:=forall_cons o9 a9
theorem Uc:bT prog gl Bz:=fB a10 Av
theorem a11:∀x∈BC,bT prog gl x:=forall_cons Uc a10
theorem Ud:bT prog gl BB:=fB a11 Aw
theorem a12:∀x∈BE,bT prog gl x:=forall_cons Ud a11
theorem Ue:bT prog gl BD:=fB a12 TO
theorem a13:∀x∈BG,bT prog gl x:=forall_cons Ue a12
theorem Uf:bT prog gl BF:=fB a13 TP
theorem a14:∀x∈BI,bT prog gl x:=forall_cons Uf a13
theorem Ug:bT prog gl BH:=fB a14 vB
theorem a15:∀x∈BK,bT prog gl x:=forall_cons Ug a14
theorem Uh:bT prog gl BJ:=fB a15 TT
theorem a16:∀x∈BM,bT prog gl x:=forall_cons Uh a15
theorem Ui:bT prog gl BL:=fB a16 TV
theorem a17:∀x∈BO,bT prog gl x:=forall_cons Ui a16
theorem Uj:bT prog gl BN:=fB a17 TW
theorem a18:∀x∈BP,bT prog gl x:=forall_cons Uj a17
theorem Uk:bT prog gl rY:=fB a18 vC
theorem a19:∀x∈BU,bT prog gl x:=forall_cons Uk a18
theorem Ul:bT prog gl BT:=fB a19 TX
theorem a20:∀x∈BW,bT prog gl x:=forall_cons Ul a19
theorem Um:bT prog gl BV:=fB a20 BX
theorem a21:∀x∈BZ,bT prog gl x:=forall_cons Um a20
theorem Un:bT prog gl BY:=fB a21 TY
theorem a22:∀x∈Iv,bT prog gl x:=forall_cons Un a21
theorem Uo:bT prog gl Iu:=fB a22 TZ
end Go.Ab.Ch1
