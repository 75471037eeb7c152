/-
  Own work: the fixed examples of chapter 5 hold: awake's contract.
-/
import Derived.Test.YtmngppcmhfhgaaaGreatDoorCh5E8
set_option maxHeartbeats 8000000
set_option maxRecDepth 20000
namespace Go.Ab.Ch5
set_option maxRecDepth 1000000
open Go.Proofs.Tryz
theorem mixed:prog.follows .mixedOrders=true:=by kernel_rfl
theorem UA : (prog.funcs.toList.all fun fn => !(fn.name == "runtime.NumGoroutine")) = true := by kernel_rfl
theorem Ds:nf prog gl FT:=by
 intro f fi h;unfold FT GZ at h;split at h
 . rename_i fn p h1 h2;refine⟨fn,p,h1,?_,h⟩;have hm:fn∈prog.funcs.toList:=by
    have:=Array.mem_of_getElem? h1;simpa using this
   have:=List.all_eq_true.1 UA fn hm;simpa using this
 . cases h
theorem Jd:oF prog 310 .qF:=⟨⟨_,rfl,by kernel_rfl,by kernel_rfl,by kernel_rfl,by kernel_rfl⟩⟩
theorem Je:oF prog 330 .qG:=⟨⟨_,rfl,by kernel_rfl,by kernel_rfl,by kernel_rfl,by kernel_rfl⟩⟩
theorem Jf:oF prog 336 .index:=⟨⟨_,rfl,by kernel_rfl,by kernel_rfl,by kernel_rfl,by kernel_rfl⟩⟩
theorem UB:oF prog 282 .count:=⟨⟨_,rfl,by kernel_rfl,by kernel_rfl,by kernel_rfl,by kernel_rfl⟩⟩
theorem UC:oF prog 208 .same:=⟨⟨_,rfl,by kernel_rfl,by kernel_rfl,by kernel_rfl,by kernel_rfl⟩⟩
theorem Jg:cW prog gl (oG XN):=by
 refine Bu ?_;intro p hp;simp only[XN,List.mem_cons,List.not_mem_nil,or_false]at hp;rcases hp with rfl|rfl|rfl|rfl|rfl
 . exact Jd
 . exact Je
 . exact Jf
 . exact UB
 . exact UC
theorem forall_nil {α:Type}{p:α->Prop}:∀x∈([]:List α),p x:=by simp
theorem forall_cons {α:Type}{p:α->Prop}{e:α}{l:List α}(h:p e)(hl:∀x∈l,p x):∀x∈e::l,p x:=by
 intro x hx;rcases List.mem_cons.1 hx with rfl|hx
 . exact h
 . exact hl x hx
theorem dG {T:List bL}(hT:∀e∈T,bG prog gl e){e:bL}(h:Shown T e):bG prog gl e:=
 SO (Bs (Bt mixed (Ig hT Jg) Ds 100000) (Ig hT Jg) Ds) h
theorem a0:∀x∈T0,bG prog gl x:=forall_nil
theorem o0:bG prog gl e0:=dG a0 h0
theorem a1:∀x∈T1,bG prog gl x:=forall_cons o0 a0
theorem o1:bG prog gl e1:=dG a1 h1
theorem a2:∀x∈T2,bG prog gl x:=forall_cons o1 a1
theorem o2:bG prog gl e2:=dG a2 h2
theorem a3:∀x∈T3,bG prog gl x:=forall_cons o2 a2
theorem o3:bG prog gl e3:=dG a3 h3
theorem a4:∀x∈T4,bG prog gl x:=forall_cons o3 a3
theorem o4:bG prog gl e4:=dG a4 h4
theorem a5:∀x∈T5,bG prog gl x:=forall_cons o4 a4
theorem o5:bG prog gl e5:=dG a5 h5
theorem a6:∀x∈T6,bG prog gl x:=forall_cons o5 a5
theorem o6:bG prog gl e6:=dG a6 h6
theorem a7:∀x∈T7,bG prog gl x:=forall_cons o6 a6
theorem o7:bG prog gl e7:=dG a7 h7
theorem a8:∀x∈T8,bG prog gl x:=forall_cons o7 a7
theorem o8:bG prog gl e8:=dG a8 h8
theorem a9:∀x∈T9,bG prog gl x:=forall_cons o8 a8
theorem o9:bG prog gl e9:=dG a9 h9
theorem a10:∀x∈Ca,bG prog gl x:=forall_cons o9 a9
theorem UD:bG prog gl BZ:=dG a10 AO
theorem a11:∀x∈Cc,bG prog gl x:=forall_cons UD a10
theorem UE:bG prog gl Cb:=dG a11 AP
theorem a12:∀x∈Ce,bG prog gl x:=forall_cons UE a11
theorem UF:bG prog gl Cd:=dG a12 Ua
theorem a13:∀x∈Cg,bG prog gl x:=forall_cons UF a12
theorem UG:bG prog gl Cf:=dG a13 Ub
theorem a14:∀x∈Ci,bG prog gl x:=forall_cons UG a13
theorem UH:bG prog gl Ch:=dG a14 Uc
theorem a15:∀x∈Ck,bG prog gl x:=forall_cons UH a14
theorem UI:bG prog gl Cj:=dG a15 Ud
theorem a16:∀x∈Cm,bG prog gl x:=forall_cons UI a15
theorem UJ:bG prog gl Cl:=dG a16 Ue
theorem a17:∀x∈Co,bG prog gl x:=forall_cons UJ a16
theorem UK:bG prog gl Cn:=dG a17 Uf
theorem a18:∀x∈Cq,bG prog gl x:=forall_cons UK a17
theorem UL:bG prog gl Cp:=dG a18 wP
theorem a19:∀x∈Cs,bG prog gl x:=forall_cons UL a18
theorem UM:bG prog gl Cr:=dG a19 Ug
theorem a20:∀x∈Cu,bG prog gl x:=forall_cons UM a19
theorem UN:bG prog gl Ct:=dG a20 Cv
theorem a21:∀x∈Cy,bG prog gl x:=forall_cons UN a20
theorem UO:bG prog gl Cw:=dG a21 Uh
theorem a22:∀x∈CA,bG prog gl x:=forall_cons UO a21
theorem UP:bG prog gl Cz:=dG a22 Ui
theorem a23:∀x∈CC,bG prog gl x:=forall_cons UP a22
theorem UQ:bG prog gl CB:=dG a23 Uj
theorem a24:∀x∈CH,bG prog gl x:=forall_cons UQ a23
theorem UR:bG prog gl CE:=dG a24 Uk
theorem a25:∀x∈CL,bG prog gl x:=forall_cons UR a24
theorem US:bG prog gl CK:=dG a25 Ul
theorem a26:∀x∈CN,bG prog gl x:=forall_cons US a25
theorem UT:bG prog gl CM:=dG a26 Um
theorem a27:∀x∈CP,bG prog gl x:=forall_cons UT a26
theorem UU:bG prog gl CO:=dG a27 Un
theorem a28:∀x∈CV,bG prog gl x:=forall_cons UU a27
theorem UW:bG prog gl CU:=dG a28 Uo
theorem a29:∀x∈CX,bG prog gl x:=forall_cons UW a28
theorem UX:bG prog gl CW:=dG a29 Up
theorem a30:∀x∈CZ,bG prog gl x:=forall_cons UX a29
theorem UY:bG prog gl CY:=dG a30 Ba
theorem a31:∀x∈Db,bG prog gl x:=forall_cons UY a30
theorem UZ:bG prog gl Da:=dG a31 Uq
theorem a32:∀x∈qW,bG prog gl x:=forall_cons UZ a31
theorem Va:bG prog gl Dc:=dG a32 Ur
theorem a33:∀x∈qX,bG prog gl x:=forall_cons Va a32
theorem Vb:bG prog gl Dd:=dG a33 Us
theorem a34:∀x∈Df,bG prog gl x:=forall_cons Vb a33
theorem Vc:bG prog gl De:=dG a34 Ut
theorem a35:∀x∈Dh,bG prog gl x:=forall_cons Vc a34
theorem Vd:bG prog gl Dg:=dG a35 Uu
theorem a36:∀x∈Dj,bG prog gl x:=forall_cons Vd a35
theorem Ve:bG prog gl Di:=dG a36 Uv
theorem a37:∀x∈Dl,bG prog gl x:=forall_cons Ve a36
theorem Vf:bG prog gl Dk:=dG a37 Uw
theorem a38:∀x∈Dn,bG prog gl x:=forall_cons Vf a37
theorem Vg:bG prog gl Dm:=dG a38 Ux
theorem a39:∀x∈Dr,bG prog gl x:=forall_cons Vg a38
theorem Vh:bG prog gl Dp:=dG a39 Uy
theorem a40:∀x∈Jc,bG prog gl x:=forall_cons Vh a39
theorem Vi:bG prog gl Jb:=dG a40 Uz
end Go.Ab.Ch5
