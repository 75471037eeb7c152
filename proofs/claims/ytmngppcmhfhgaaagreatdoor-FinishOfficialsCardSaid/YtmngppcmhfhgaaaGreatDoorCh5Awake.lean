/-
  Own work: the fixed examples of chapter 5 hold: awake's contract.
-/
import Derived.Test.YtmngppcmhfhgaaaGreatDoorCh5E8
set_option maxHeartbeats 8000000
set_option maxRecDepth 20000
namespace Go.Ab.Ch5
set_option maxRecDepth 1000000
open Go.Proofs.Tryz
theorem mixed:prog.follows .mixedOrders=true:=by kernel_rfl
theorem So : (prog.funcs.toList.all fun fn => !(fn.name == "runtime.NumGoroutine")) = true := by kernel_rfl
theorem Ce:mE prog gl FT:=by
 intro f fi h;unfold FT FM at h;split at h
 . rename_i fn p h1 h2;refine⟨fn,p,h1,?_,h⟩;have hm:fn∈prog.funcs.toList:=by
    have:=Array.mem_of_getElem? h1;simpa using this
   have:=List.all_eq_true.1 So fn hm;simpa using this
 . cases h
theorem HS:nL prog 310 .pI:=⟨⟨_,rfl,by kernel_rfl,by kernel_rfl,by kernel_rfl,by kernel_rfl⟩⟩
theorem HT:nL prog 330 .pJ:=⟨⟨_,rfl,by kernel_rfl,by kernel_rfl,by kernel_rfl,by kernel_rfl⟩⟩
theorem HU:nL prog 336 .index:=⟨⟨_,rfl,by kernel_rfl,by kernel_rfl,by kernel_rfl,by kernel_rfl⟩⟩
theorem Sp:nL prog 282 .count:=⟨⟨_,rfl,by kernel_rfl,by kernel_rfl,by kernel_rfl,by kernel_rfl⟩⟩
theorem Sq:nL prog 208 .same:=⟨⟨_,rfl,by kernel_rfl,by kernel_rfl,by kernel_rfl,by kernel_rfl⟩⟩
theorem HV:cY prog gl (nM XN):=by
 refine Av ?_;intro p hp;simp only[XN,List.mem_cons,List.not_mem_nil,or_false]at hp;rcases hp with rfl|rfl|rfl|rfl|rfl
 . exact HS
 . exact HT
 . exact HU
 . exact Sp
 . exact Sq
theorem forall_nil {α:Type}{p:α->Prop}:∀x∈([]:List α),p x:=by simp
theorem forall_cons {α:Type}{p:α->Prop}{e:α}{l:List α}(h:p e)(hl:∀x∈l,p x):∀x∈e::l,p x:=by
 intro x hx;rcases List.mem_cons.1 hx with rfl|hx
 . exact h
 . exact hl x hx
theorem dy {T:List bD}(hT:∀e∈T,bw prog gl e){e:bD}(h:Shown T e):bw prog gl e:=
 QQ (Ar (As mixed (GW hT HV) Ce 100000) (GW hT HV) Ce) h
theorem a0:∀x∈T0,bw prog gl x:=forall_nil
theorem o0:bw prog gl e0:=dy a0 h0
theorem a1:∀x∈T1,bw prog gl x:=forall_cons o0 a0
theorem o1:bw prog gl e1:=dy a1 h1
theorem a2:∀x∈T2,bw prog gl x:=forall_cons o1 a1
theorem o2:bw prog gl e2:=dy a2 h2
theorem a3:∀x∈T3,bw prog gl x:=forall_cons o2 a2
theorem o3:bw prog gl e3:=dy a3 h3
theorem a4:∀x∈T4,bw prog gl x:=forall_cons o3 a3
theorem o4:bw prog gl e4:=dy a4 h4
theorem a5:∀x∈T5,bw prog gl x:=forall_cons o4 a4
theorem o5:bw prog gl e5:=dy a5 h5
theorem a6:∀x∈T6,bw prog gl x:=forall_cons o5 a5
theorem o6:bw prog gl e6:=dy a6 h6
theorem a7:∀x∈T7,bw prog gl x:=forall_cons o6 a6
theorem o7:bw prog gl e7:=dy a7 h7
theorem a8:∀x∈T8,bw prog gl x:=forall_cons o7 a7
theorem o8:bw prog gl e8:=dy a8 h8
theorem a9:∀x∈T9,bw prog gl x:=forall_cons o8 a8
theorem o9:bw prog gl e9:=dy a9 h9
theorem a10:∀x∈AW,bw prog gl x:=forall_cons o9 a9
theorem Sr:bw prog gl rQ:=dy a10 zJ
theorem a11:∀x∈AY,bw prog gl x:=forall_cons Sr a10
theorem Ss:bw prog gl AX:=dy a11 zK
theorem a12:∀x∈Ba,bw prog gl x:=forall_cons Ss a11
theorem Su:bw prog gl AZ:=dy a12 RN
theorem a13:∀x∈Bc,bw prog gl x:=forall_cons Su a12
theorem Sv:bw prog gl Bb:=dy a13 RO
theorem a14:∀x∈Be,bw prog gl x:=forall_cons Sv a13
theorem Sw:bw prog gl Bd:=dy a14 RP
theorem a15:∀x∈Bg,bw prog gl x:=forall_cons Sw a14
theorem Sx:bw prog gl Bf:=dy a15 RQ
theorem a16:∀x∈Bi,bw prog gl x:=forall_cons Sx a15
theorem Sy:bw prog gl Bh:=dy a16 RR
theorem a17:∀x∈Bk,bw prog gl x:=forall_cons Sy a16
theorem Sz:bw prog gl Bj:=dy a17 RS
theorem a18:∀x∈Bm,bw prog gl x:=forall_cons Sz a17
theorem SA:bw prog gl Bl:=dy a18 vi
theorem a19:∀x∈Bo,bw prog gl x:=forall_cons SA a18
theorem SB:bw prog gl Bn:=dy a19 RT
theorem a20:∀x∈Br,bw prog gl x:=forall_cons SB a19
theorem SC:bw prog gl Bp:=dy a20 Bs
theorem a21:∀x∈Bu,bw prog gl x:=forall_cons SC a20
theorem SD:bw prog gl Bt:=dy a21 RU
theorem a22:∀x∈Bw,bw prog gl x:=forall_cons SD a21
theorem SE:bw prog gl Bv:=dy a22 RV
theorem a23:∀x∈By,bw prog gl x:=forall_cons SE a22
theorem SF:bw prog gl Bx:=dy a23 RW
theorem a24:∀x∈BA,bw prog gl x:=forall_cons SF a23
theorem SG:bw prog gl Bz:=dy a24 RX
theorem a25:∀x∈BC,bw prog gl x:=forall_cons SG a24
theorem SH:bw prog gl BB:=dy a25 RY
theorem a26:∀x∈BE,bw prog gl x:=forall_cons SH a25
theorem SI:bw prog gl BD:=dy a26 RZ
theorem a27:∀x∈BG,bw prog gl x:=forall_cons SI a26
theorem SJ:bw prog gl BF:=dy a27 Sa
theorem a28:∀x∈BI,bw prog gl x:=forall_cons SJ a27
theorem SK:bw prog gl BH:=dy a28 Sb
theorem a29:∀x∈BK,bw prog gl x:=forall_cons SK a28
theorem SL:bw prog gl BJ:=dy a29 Sc
theorem a30:∀x∈BM,bw prog gl x:=forall_cons SL a29
theorem SM:bw prog gl BL:=dy a30 zZ
theorem a31:∀x∈BO,bw prog gl x:=forall_cons SM a30
theorem SN:bw prog gl BN:=dy a31 Sd
theorem a32:∀x∈qj,bw prog gl x:=forall_cons SN a31
theorem SO:bw prog gl BP:=dy a32 Se
theorem a33:∀x∈oc,bw prog gl x:=forall_cons SO a32
theorem SP:bw prog gl BT:=dy a33 Sf
theorem a34:∀x∈BV,bw prog gl x:=forall_cons SP a33
theorem SR:bw prog gl BU:=dy a34 Sg
theorem a35:∀x∈qk,bw prog gl x:=forall_cons SR a34
theorem SS:bw prog gl BW:=dy a35 Sh
theorem a36:∀x∈BX,bw prog gl x:=forall_cons SS a35
theorem SU:bw prog gl od:=dy a36 Si
theorem a37:∀x∈BZ,bw prog gl x:=forall_cons SU a36
theorem SV:bw prog gl BY:=dy a37 Sj
theorem a38:∀x∈Cb,bw prog gl x:=forall_cons SV a37
theorem SW:bw prog gl Ca:=dy a38 Sk
theorem a39:∀x∈Cd,bw prog gl x:=forall_cons SW a38
theorem SX:bw prog gl Cc:=dy a39 Sm
theorem a40:∀x∈HQ,bw prog gl x:=forall_cons SX a39
theorem SY:bw prog gl HP:=dy a40 Sn
end Go.Ab.Ch5
