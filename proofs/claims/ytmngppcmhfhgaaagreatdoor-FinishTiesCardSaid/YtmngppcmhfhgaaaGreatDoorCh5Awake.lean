/-
  Own work: the fixed examples of chapter 5 hold: awake's contract.
-/
import Derived.Test.YtmngppcmhfhgaaaGreatDoorCh5E8
set_option maxHeartbeats 8000000
set_option maxRecDepth 20000
namespace Go.Ab.Ch5
set_option maxRecDepth 1000000
open Go.Proofs.Tryz
theorem mixed:prog.follows .mixedOrders=true:=by kernel_rfl
theorem RS : (prog.funcs.toList.all fun fn => !(fn.name == "runtime.NumGoroutine")) = true := by kernel_rfl
theorem BJ:lZ prog gl FT:=by
 intro f fi h;unfold FT FG at h;split at h
 . rename_i fn p h1 h2;refine⟨fn,p,h1,?_,h⟩;have hm:fn∈prog.funcs.toList:=by
    have:=Array.mem_of_getElem? h1;simpa using this
   have:=List.all_eq_true.1 RS fn hm;simpa using this
 . cases h
theorem HJ:nf prog 310 .po:=⟨⟨_,rfl,by kernel_rfl,by kernel_rfl,by kernel_rfl,by kernel_rfl⟩⟩
theorem HK:nf prog 330 .pq:=⟨⟨_,rfl,by kernel_rfl,by kernel_rfl,by kernel_rfl,by kernel_rfl⟩⟩
theorem HL:nf prog 336 .index:=⟨⟨_,rfl,by kernel_rfl,by kernel_rfl,by kernel_rfl,by kernel_rfl⟩⟩
theorem RT:nf prog 282 .count:=⟨⟨_,rfl,by kernel_rfl,by kernel_rfl,by kernel_rfl,by kernel_rfl⟩⟩
theorem RU:nf prog 208 .same:=⟨⟨_,rfl,by kernel_rfl,by kernel_rfl,by kernel_rfl,by kernel_rfl⟩⟩
theorem HM:cB prog gl (nh XN):=by
 refine Ae ?_;intro p hp;simp only[XN,List.mem_cons,List.not_mem_nil,or_false]at hp;rcases hp with rfl|rfl|rfl|rfl|rfl
 . exact HJ
 . exact HK
 . exact HL
 . exact RT
 . exact RU
theorem forall_nil {α:Type}{p:α->Prop}:∀x∈([]:List α),p x:=by simp
theorem forall_cons {α:Type}{p:α->Prop}{e:α}{l:List α}(h:p e)(hl:∀x∈l,p x):∀x∈e::l,p x:=by
 intro x hx;rcases List.mem_cons.1 hx with rfl|hx
 . exact h
 . exact hl x hx
theorem dc {T:List bA}(hT:∀e∈T,bl prog gl e){e:bA}(h:Shown T e):bl prog gl e:=
 Qp (Ac (Ad mixed (GP hT HM) BJ 100000) (GP hT HM) BJ) h
theorem a0:∀x∈T0,bl prog gl x:=forall_nil
theorem o0:bl prog gl e0:=dc a0 h0
theorem a1:∀x∈T1,bl prog gl x:=forall_cons o0 a0
theorem o1:bl prog gl e1:=dc a1 h1
theorem a2:∀x∈T2,bl prog gl x:=forall_cons o1 a1
theorem o2:bl prog gl e2:=dc a2 h2
theorem a3:∀x∈T3,bl prog gl x:=forall_cons o2 a2
theorem o3:bl prog gl e3:=dc a3 h3
theorem a4:∀x∈T4,bl prog gl x:=forall_cons o3 a3
theorem o4:bl prog gl e4:=dc a4 h4
theorem a5:∀x∈T5,bl prog gl x:=forall_cons o4 a4
theorem o5:bl prog gl e5:=dc a5 h5
theorem a6:∀x∈T6,bl prog gl x:=forall_cons o5 a5
theorem o6:bl prog gl e6:=dc a6 h6
theorem a7:∀x∈T7,bl prog gl x:=forall_cons o6 a6
theorem o7:bl prog gl e7:=dc a7 h7
theorem a8:∀x∈T8,bl prog gl x:=forall_cons o7 a7
theorem o8:bl prog gl e8:=dc a8 h8
theorem a9:∀x∈T9,bl prog gl x:=forall_cons o8 a8
theorem o9:bl prog gl e9:=dc a9 h9
theorem a10:∀x∈Az,bl prog gl x:=forall_cons o9 a9
theorem RV:bl prog gl Ay:=dc a10 zh
theorem a11:∀x∈AB,bl prog gl x:=forall_cons RV a10
theorem RW:bl prog gl AA:=dc a11 zj
theorem a12:∀x∈AE,bl prog gl x:=forall_cons RW a11
theorem RX:bl prog gl AD:=dc a12 Rs
theorem a13:∀x∈AG,bl prog gl x:=forall_cons RX a12
theorem RY:bl prog gl AF:=dc a13 Rt
theorem a14:∀x∈AI,bl prog gl x:=forall_cons RY a13
theorem RZ:bl prog gl AH:=dc a14 Ru
theorem a15:∀x∈AK,bl prog gl x:=forall_cons RZ a14
theorem Sa:bl prog gl AJ:=dc a15 Rv
theorem a16:∀x∈AM,bl prog gl x:=forall_cons Sa a15
theorem Sb:bl prog gl AL:=dc a16 Rw
theorem a17:∀x∈AO,bl prog gl x:=forall_cons Sb a16
theorem Sc:bl prog gl AN:=dc a17 Rx
theorem a18:∀x∈AQ,bl prog gl x:=forall_cons Sc a17
theorem Sd:bl prog gl AP:=dc a18 uM
theorem a19:∀x∈AS,bl prog gl x:=forall_cons Sd a18
theorem Se:bl prog gl AR:=dc a19 Ry
theorem a20:∀x∈AU,bl prog gl x:=forall_cons Se a19
theorem Sf:bl prog gl AT:=dc a20 AW
theorem a21:∀x∈AY,bl prog gl x:=forall_cons Sf a20
theorem Sg:bl prog gl AX:=dc a21 Rz
theorem a22:∀x∈Ba,bl prog gl x:=forall_cons Sg a21
theorem Sh:bl prog gl AZ:=dc a22 RA
theorem a23:∀x∈Bc,bl prog gl x:=forall_cons Sh a22
theorem Si:bl prog gl Bb:=dc a23 RB
theorem a24:∀x∈Be,bl prog gl x:=forall_cons Si a23
theorem Sj:bl prog gl Bd:=dc a24 RC
theorem a25:∀x∈Bg,bl prog gl x:=forall_cons Sj a24
theorem Sk:bl prog gl Bf:=dc a25 RD
theorem a26:∀x∈Bi,bl prog gl x:=forall_cons Sk a25
theorem Sm:bl prog gl Bh:=dc a26 RE
theorem a27:∀x∈Bk,bl prog gl x:=forall_cons Sm a26
theorem Sn:bl prog gl Bj:=dc a27 RF
theorem a28:∀x∈Bm,bl prog gl x:=forall_cons Sn a27
theorem So:bl prog gl Bl:=dc a28 RG
theorem a29:∀x∈Bo,bl prog gl x:=forall_cons So a28
theorem Sp:bl prog gl Bn:=dc a29 RH
theorem a30:∀x∈Br,bl prog gl x:=forall_cons Sp a29
theorem Sq:bl prog gl Bp:=dc a30 zF
theorem a31:∀x∈Bt,bl prog gl x:=forall_cons Sq a30
theorem Sr:bl prog gl Bs:=dc a31 RI
theorem a32:∀x∈Bv,bl prog gl x:=forall_cons Sr a31
theorem Ss:bl prog gl Bu:=dc a32 RJ
theorem a33:∀x∈nF,bl prog gl x:=forall_cons Ss a32
theorem Su:bl prog gl Bw:=dc a33 RK
theorem a34:∀x∈By,bl prog gl x:=forall_cons Su a33
theorem Sv:bl prog gl Bx:=dc a34 RL
theorem a35:∀x∈BA,bl prog gl x:=forall_cons Sv a34
theorem Sw:bl prog gl Bz:=dc a35 RM
theorem a36:∀x∈BC,bl prog gl x:=forall_cons Sw a35
theorem Sx:bl prog gl BB:=dc a36 RN
theorem a37:∀x∈BE,bl prog gl x:=forall_cons Sx a36
theorem Sy:bl prog gl BD:=dc a37 RO
theorem a38:∀x∈BG,bl prog gl x:=forall_cons Sy a37
theorem Sz:bl prog gl BF:=dc a38 RP
theorem a39:∀x∈BI,bl prog gl x:=forall_cons Sz a38
theorem SA:bl prog gl BH:=dc a39 RQ
theorem a40:∀x∈HI,bl prog gl x:=forall_cons SA a39
theorem SB:bl prog gl HH:=dc a40 RR
end Go.Ab.Ch5
