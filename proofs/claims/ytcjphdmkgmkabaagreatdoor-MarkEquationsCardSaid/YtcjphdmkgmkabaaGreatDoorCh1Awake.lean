import Derived.Test.YtcjphdmkgmkabaaGreatDoorCh1E7
set_option maxHeartbeats 8000000
set_option maxRecDepth 20000
namespace Go.Ab.Ch1
set_option maxRecDepth 1000000
open Go.Proofs.Tryz
theorem mixed:prog.follows .mixedOrders=true:=by kernel_rfl
theorem Xt : (prog.funcs.toList.all fun fn => !(fn.name == "runtime.NumGoroutine")) = true := by kernel_rfl
theorem Ef:nD prog gl FT:=by
 intro f fi h;unfold FT IP at h;split at h
 . rename_i fn p h1 h2;refine⟨fn,p,h1,?_,h⟩;have hm:fn∈prog.funcs.toList:=by
    have:=Array.mem_of_getElem? h1;simpa using this
   have:=List.all_eq_true.1 Xt fn hm;simpa using this
 . cases h
theorem KI:pj prog 275 .qS:=⟨⟨_,rfl,by kernel_rfl,by kernel_rfl,by kernel_rfl,by kernel_rfl⟩⟩
theorem KJ:pj prog 277 .qT:=⟨⟨_,rfl,by kernel_rfl,by kernel_rfl,by kernel_rfl,by kernel_rfl⟩⟩
theorem KK:pj prog 312 .index:=⟨⟨_,rfl,by kernel_rfl,by kernel_rfl,by kernel_rfl,by kernel_rfl⟩⟩
theorem Xu:pj prog 329 .count:=⟨⟨_,rfl,by kernel_rfl,by kernel_rfl,by kernel_rfl,by kernel_rfl⟩⟩
theorem KL:cD prog gl (pk XN):=by
 refine De ?_;intro p hp;simp only[XN,List.mem_cons,List.not_mem_nil,or_false]at hp;rcases hp with rfl|rfl|rfl|rfl
 . exact KI
 . exact KJ
 . exact KK
 . exact Xu
theorem forall_nil {α:Type}{p:α->Prop}:∀x∈([]:List α),p x:=by simp
theorem forall_cons {α:Type}{p:α->Prop}{e:α}{l:List α}(h:p e)(hl:∀x∈l,p x):∀x∈e::l,p x:=by
 intro x hx;rcases List.mem_cons.1 hx with rfl|hx
 . exact h
 . exact hl x hx
theorem fK {T:List cm}(hT:∀e∈T,bX prog gl e){e:cm}(h:Shown T e):bX prog gl e:=
 VQ (Db (Dc mixed (JU hT KL) Ef 100000) (JU hT KL) Ef) h
theorem a0:∀x∈T0,bX prog gl x:=forall_nil
theorem o0:bX prog gl e0:=fK a0 h0
theorem a1:∀x∈T1,bX prog gl x:=forall_cons o0 a0
theorem o1:bX prog gl e1:=fK a1 h1
theorem a2:∀x∈T2,bX prog gl x:=forall_cons o1 a1
theorem o2:bX prog gl e2:=fK a2 h2
theorem a3:∀x∈T3,bX prog gl x:=forall_cons o2 a2
theorem o3:bX prog gl e3:=fK a3 h3
theorem a4:∀x∈T4,bX prog gl x:=forall_cons o3 a3
theorem o4:bX prog gl e4:=fK a4 h4
theorem a5:∀x∈T5,bX prog gl x:=forall_cons o4 a4
theorem o5:bX prog gl e5:=fK a5 h5
theorem a6:∀x∈T6,bX prog gl x:=forall_cons o5 a5
theorem o6:bX prog gl e6:=fK a6 h6
theorem a7:∀x∈T7,bX prog gl x:=forall_cons o6 a6
theorem o7:bX prog gl e7:=fK a7 h7
theorem a8:∀x∈T8,bX prog gl x:=forall_cons o7 a7
theorem o8:bX prog gl e8:=fK a8 h8
theorem a9:∀x∈T9,bX prog gl x:=forall_cons o8 a8
theorem o9:bX prog gl e9:=fK a9 h9
theorem a10:∀x∈DI,bX prog gl x:=forall_cons o9 a9
theorem Xv:bX prog gl DH:=fK a10 Co
theorem a11:∀x∈DK,bX prog gl x:=forall_cons Xv a10
theorem Xw:bX prog gl DJ:=fK a11 Cp
theorem a12:∀x∈DM,bX prog gl x:=forall_cons Xw a11
theorem Xx:bX prog gl DL:=fK a12 Xk
theorem a13:∀x∈DO,bX prog gl x:=forall_cons Xx a12
theorem Xy:bX prog gl DN:=fK a13 Xl
theorem a14:∀x∈DQ,bX prog gl x:=forall_cons Xy a13
theorem Xz:bX prog gl DP:=fK a14 Xm
theorem a15:∀x∈DS,bX prog gl x:=forall_cons Xz a14
theorem XA:bX prog gl DR:=fK a15 Xn
theorem a16:∀x∈DU,bX prog gl x:=forall_cons XA a15
theorem XB:bX prog gl DT:=fK a16 Xo
theorem a17:∀x∈DW,bX prog gl x:=forall_cons XB a16
theorem XC:bX prog gl DV:=fK a17 Xp
theorem a18:∀x∈DX,bX prog gl x:=forall_cons XC a17
theorem XD:bX prog gl tB:=fK a18 xE
theorem a19:∀x∈DZ,bX prog gl x:=forall_cons XD a18
theorem XE:bX prog gl DY:=fK a19 Xq
theorem a20:∀x∈Eb,bX prog gl x:=forall_cons XE a19
theorem XF:bX prog gl Ea:=fK a20 Ec
theorem a21:∀x∈Ee,bX prog gl x:=forall_cons XF a20
theorem XG:bX prog gl Ed:=fK a21 Xr
theorem a22:∀x∈KH,bX prog gl x:=forall_cons XG a21
theorem XH:bX prog gl KG:=fK a22 Xs
end Go.Ab.Ch1
