/-
  Own work: the fixed examples hold: their contract.
-/
import Derived.Test.YtciaaphffkhjeaaGreatDoorCh6E8
import Derived.Test.YtciaaphffkhjeaaGreatDoorFieldJoin
namespace Go.Ab.Ch6
set_option maxRecDepth 1000000
open Go.Proofs.Tryz
theorem mixed:prog.follows .mixedOrders=true:=by kernel_rfl
theorem noNum : (prog.funcs.toList.all fun fn => !(fn.name == "runtime.NumGoroutine")) = true := by kernel_rfl
theorem ftOK:FTOK prog gl FT:=by
 intro f fi h
 unfold FT ftab at h
 split at h
 · rename_i fn p h1 h2
   refine ⟨fn,p,h1,?_,h⟩
   have hm:fn∈prog.funcs.toList:=by
    have:=Array.mem_of_getElem? h1
    simpa using this
   have:=List.all_eq_true.1 noNum fn hm
   simpa using this
 · cases h
theorem x247:XOK prog 247 .add64:=⟨⟨_,rfl,by kernel_rfl,by kernel_rfl,by kernel_rfl,by kernel_rfl⟩⟩
theorem x249:XOK prog 249 .sub64:=⟨⟨_,rfl,by kernel_rfl,by kernel_rfl,by kernel_rfl,by kernel_rfl⟩⟩
theorem x285:XOK prog 285 .index:=⟨⟨_,rfl,by kernel_rfl,by kernel_rfl,by kernel_rfl,by kernel_rfl⟩⟩
theorem x232:XOK prog 232 .count:=⟨⟨_,rfl,by kernel_rfl,by kernel_rfl,by kernel_rfl,by kernel_rfl⟩⟩
theorem x238:XOK prog 238 .same:=⟨⟨_,rfl,by kernel_rfl,by kernel_rfl,by kernel_rfl,by kernel_rfl⟩⟩
theorem xOK:ExtOK prog gl (extN XN):=by
 refine extN_ok ?_
 intro p hp
 simp only [XN,List.mem_cons,List.not_mem_nil,or_false] at hp
 rcases hp with rfl|rfl|rfl|rfl|rfl
 · exact x247
 · exact x249
 · exact x285
 · exact x232
 · exact x238
theorem forall_nil {α:Type} {p:α→Prop}:∀ x∈([]:List α),p x:=by simp
theorem forall_cons {α:Type} {p:α→Prop} {e:α} {l:List α} (h:p e) (hl:∀ x∈l,p x):∀ x∈e::l,p x:=by
 intro x hx
 rcases List.mem_cons.1 hx with rfl|hx
 · exact h
 · exact hl x hx
theorem shown_ok {T:List EntH} (hT:∀ e∈T,EntHOK prog gl e) {e:EntH} (h:Shown T e):EntHOK prog gl e:=
 entH_ok (callWith_ok (eval_ok mixed (extH_ok hT xOK) ftOK 100000) (extH_ok hT xOK) ftOK) h
theorem a0:∀ x∈T0,EntHOK prog gl x:=forall_nil
theorem o0:EntHOK prog gl e0:=shown_ok a0 h0
theorem a1:∀ x∈T1,EntHOK prog gl x:=forall_cons o0 a0
theorem o1:EntHOK prog gl e1:=shown_ok a1 h1
theorem a2:∀ x∈T2,EntHOK prog gl x:=forall_cons o1 a1
theorem o2:EntHOK prog gl e2:=shown_ok a2 h2
theorem a3:∀ x∈T3,EntHOK prog gl x:=forall_cons o2 a2
theorem o3:EntHOK prog gl e3:=shown_ok a3 h3
theorem a4:∀ x∈T4,EntHOK prog gl x:=forall_cons o3 a3
theorem o4:EntHOK prog gl e4:=shown_ok a4 h4
theorem a5:∀ x∈T5,EntHOK prog gl x:=forall_cons o4 a4
theorem o5:EntHOK prog gl e5:=shown_ok a5 h5
theorem a6:∀ x∈T6,EntHOK prog gl x:=forall_cons o5 a5
theorem o6:EntHOK prog gl e6:=shown_ok a6 h6
theorem a7:∀ x∈T7,EntHOK prog gl x:=forall_cons o6 a6
theorem o7:EntHOK prog gl e7:=shown_ok a7 h7
theorem a8:∀ x∈T8,EntHOK prog gl x:=forall_cons o7 a7
theorem o8:EntHOK prog gl e8:=shown_ok a8 h8
theorem a9:∀ x∈T9,EntHOK prog gl x:=forall_cons o8 a8
theorem o9:EntHOK prog gl e9:=shown_ok a9 h9
theorem a10:∀ x∈T10,EntHOK prog gl x:=forall_cons o9 a9
theorem o10:EntHOK prog gl e10:=shown_ok a10 h10
theorem a11:∀ x∈T11,EntHOK prog gl x:=forall_cons o10 a10
theorem o11:EntHOK prog gl e11:=shown_ok a11 h11
theorem a12:∀ x∈T12,EntHOK prog gl x:=forall_cons o11 a11
theorem o12:EntHOK prog gl e12:=shown_ok a12 h12
theorem a13:∀ x∈T13,EntHOK prog gl x:=forall_cons o12 a12
theorem o13:EntHOK prog gl e13:=shown_ok a13 h13
theorem a14:∀ x∈T14,EntHOK prog gl x:=forall_cons o13 a13
theorem o14:EntHOK prog gl e14:=shown_ok a14 h14
theorem a15:∀ x∈T15,EntHOK prog gl x:=forall_cons o14 a14
theorem o15:EntHOK prog gl e15:=shown_ok a15 h15
theorem a16:∀ x∈T16,EntHOK prog gl x:=forall_cons o15 a15
theorem o16:EntHOK prog gl e16:=shown_ok a16 h16
theorem a17:∀ x∈T17,EntHOK prog gl x:=forall_cons o16 a16
theorem o17:EntHOK prog gl e17:=shown_ok a17 h17
theorem a18:∀ x∈T18,EntHOK prog gl x:=forall_cons o17 a17
theorem o18:EntHOK prog gl e18:=shown_ok a18 h18
theorem a19:∀ x∈T19,EntHOK prog gl x:=forall_cons o18 a18
theorem o19:EntHOK prog gl e19:=shown_ok a19 h19
theorem a20:∀ x∈T20,EntHOK prog gl x:=forall_cons o19 a19
theorem o20:EntHOK prog gl e20:=shown_ok a20 h20
theorem a21:∀ x∈T21,EntHOK prog gl x:=forall_cons o20 a20
theorem o21:EntHOK prog gl e21:=shown_ok a21 h21
theorem a22:∀ x∈T22,EntHOK prog gl x:=forall_cons o21 a21
theorem o22:EntHOK prog gl e22:=shown_ok a22 h22
theorem a23:∀ x∈T23,EntHOK prog gl x:=forall_cons o22 a22
theorem o23:EntHOK prog gl e23:=shown_ok a23 h23
theorem a24:∀ x∈T24,EntHOK prog gl x:=forall_cons o23 a23
theorem o24:EntHOK prog gl e24:=shown_ok a24 h24
theorem a25:∀ x∈T25,EntHOK prog gl x:=forall_cons o24 a24
theorem o25:EntHOK prog gl e25:=shown_ok a25 h25
theorem a26:∀ x∈T26,EntHOK prog gl x:=forall_cons o25 a25
theorem o26:EntHOK prog gl e26:=shown_ok a26 h26
theorem a27:∀ x∈T27,EntHOK prog gl x:=forall_cons o26 a26
theorem o27:EntHOK prog gl e27:=shown_ok a27 h27
theorem a28:∀ x∈T28,EntHOK prog gl x:=forall_cons o27 a27
theorem o28:EntHOK prog gl e28:=shown_ok a28 h28
theorem a29:∀ x∈T29,EntHOK prog gl x:=forall_cons o28 a28
theorem o29:EntHOK prog gl e29:=shown_ok a29 h29
theorem a30:∀ x∈T30,EntHOK prog gl x:=forall_cons o29 a29
theorem o30:EntHOK prog gl e30:=shown_ok a30 h30
theorem a31:∀ x∈T31,EntHOK prog gl x:=forall_cons o30 a30
theorem o31:EntHOK prog gl e31:=shown_ok a31 h31
theorem a32:∀ x∈T32,EntHOK prog gl x:=forall_cons o31 a31
theorem o32:EntHOK prog gl e32:=shown_ok a32 h32
theorem a33:∀ x∈T33,EntHOK prog gl x:=forall_cons o32 a32
theorem o33:EntHOK prog gl e33:=shown_ok a33 h33
theorem a34:∀ x∈T34,EntHOK prog gl x:=forall_cons o33 a33
theorem o34:EntHOK prog gl e34:=shown_ok a34 h34
theorem a35:∀ x∈T35,EntHOK prog gl x:=forall_cons o34 a34
theorem o35:EntHOK prog gl e35:=shown_ok a35 h35
theorem a36:∀ x∈T36,EntHOK prog gl x:=forall_cons o35 a35
theorem o36:EntHOK prog gl e36:=shown_ok a36 h36
theorem a37:∀ x∈T37,EntHOK prog gl x:=forall_cons o36 a36
theorem o37:EntHOK prog gl e37:=j37
theorem a38:∀ x∈T38,EntHOK prog gl x:=forall_cons o37 a37
theorem o38:EntHOK prog gl e38:=shown_ok a38 h38
theorem a39:∀ x∈T39,EntHOK prog gl x:=forall_cons o38 a38
theorem o39:EntHOK prog gl e39:=shown_ok a39 h39
theorem a40:∀ x∈T40,EntHOK prog gl x:=forall_cons o39 a39
theorem o40:EntHOK prog gl e40:=shown_ok a40 h40
theorem a41:∀ x∈T41,EntHOK prog gl x:=forall_cons o40 a40
theorem o41:EntHOK prog gl e41:=shown_ok a41 h41
theorem a42:∀ x∈T42,EntHOK prog gl x:=forall_cons o41 a41
theorem o42:EntHOK prog gl e42:=shown_ok a42 h42
theorem a43:∀ x∈T43,EntHOK prog gl x:=forall_cons o42 a42
theorem o43:EntHOK prog gl e43:=shown_ok a43 h43
theorem a44:∀ x∈T44,EntHOK prog gl x:=forall_cons o43 a43
theorem o44:EntHOK prog gl e44:=shown_ok a44 h44
theorem a45:∀ x∈T45,EntHOK prog gl x:=forall_cons o44 a44
theorem o45:EntHOK prog gl e45:=shown_ok a45 h45
theorem a46:∀ x∈T46,EntHOK prog gl x:=forall_cons o45 a45
theorem o46:EntHOK prog gl e46:=shown_ok a46 h46
theorem a47:∀ x∈T47,EntHOK prog gl x:=forall_cons o46 a46
theorem o47:EntHOK prog gl e47:=shown_ok a47 h47
theorem a48:∀ x∈T48,EntHOK prog gl x:=forall_cons o47 a47
theorem o48:EntHOK prog gl e48:=shown_ok a48 h48
theorem oAwake:EntHOK prog gl e48:=o48
end Go.Ab.Ch6
