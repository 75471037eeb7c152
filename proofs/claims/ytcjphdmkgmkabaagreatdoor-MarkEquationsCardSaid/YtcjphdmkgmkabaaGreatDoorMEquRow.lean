import Derived.Test.YtcjphdmkgmkabaaGreatDoorLib9
set_option maxHeartbeats 8000000
set_option maxRecDepth 20000
namespace Go.Proofs.YtcjphdmkgmkabaaGreatDoor.markEquations
open Go.Ab Go.Ab.Ch1 Go.ChangeShapes Go.WideShapes Go.ChangeAt Go.RowKit
open Go.ChangeMaps (open_string)
theorem alp:Tryz.prog.underlying 37=some (.slice 38):=by kernel_rfl
theorem alq:Tryz.prog.underlying 38=some (.slice 75):=by kernel_rfl
theorem alr:mB Tryz.prog 8 37=some [.slice [.slice [.str]]]:=by kernel_rfl
theorem als:mB Tryz.prog 8 38=some [.slice [.str]]:=by kernel_rfl
theorem SK (c:List AV)(h:dS [.str] c):∃s:ah,c=fS s:=by
 simp only[dS,Has]at h;obtain⟨_,_,rfl,⟨s,rfl,_⟩,rfl⟩:=h;exact⟨s,rfl⟩
theorem alu (c:List AV)(h:dS [.slice [.str]] c):∃l:List ah,c=bB fS l:=by
 obtain⟨x,r,rfl,hx,hr⟩:=(by simpa only[dS] using h:∃x r,c=x::r/\Has (.slice [.str]) x/\r=[]);subst hr;obtain⟨l,rfl,_⟩:=Dy SK hx;exact⟨l,rfl⟩
theorem law (m:List (List ah))(b:List ah):aV (aZ Tryz.prog Go.Ab.Ch1.FT Im) 4 [.vs (arr (bB fS) m) m.length none,.vs (arr fS b) b.length none] [] ⟨.bool true,[],[]⟩:=w4 c4 m b
set_option maxRecDepth 100000 in
theorem alv (H:Type)(enc:TypeId×Value->H)(W:World)(base:Nat)(args:Array Value)(ds gs:List (DataW H))(before:List MemPlace)
 (hval:∀(j:Nat) t v,Tryz.f4.params[j]? = some t->args[j]? = some v->Value.okWide Tryz.prog W .any base t v)
 (hW:DataW.Whole enc Tryz.prog Tryz.f4.params.toList Rows.markEquationsSpec.vars false W args.toList ds gs before) (hL:laidMetH Tryz.prog Rows.markEquationsRow.laid W) :
 Calls Tryz.prog 4 args W fun e W'=>∃v,e = .returned v/\Rows.markEquationsSpec.post enc Tryz.prog Tryz.f4 false true false false W args v W':=by
 have hW':=hW;obtain⟨p,q,hA0,hV,rfl,hfz,hnd⟩:=hW;have hA:DataW.TrodAll enc Tryz.prog W 0 (fun _=>true) true Tryz.f4.params.toList args.toList ds p:=hA0;rw[Tryz.params4]at hA hval;obtain⟨v0,vs0,d0,ds0,p0,q0,hargs,rfl,rfl,h0,r0⟩:=trodAll_cons hA;obtain⟨v1,vs1,d1,ds1,p1,q1,rfl,rfl,rfl,h1,r1⟩:=trodAll_cons r0;obtain⟨rfl,rfl,rfl⟩:=trodAll_nil r1;obtain rfl:args = #[v0,v1]:=by cases args;simp_all
 obtain⟨rfl,rfl⟩:=trodVars_none hV;obtain⟨x0,g0,hl⟩:=Ku alr (by obtain⟨_,_,_,rfl⟩:=okWide_slice alp (hval 0 37 v0 rfl rfl);rfl) h0 rfl;obtain⟨m,rfl,_⟩:=Dy alu g0;obtain⟨x1,g1,hl1⟩:=Ku als (by obtain⟨_,_,_,rfl⟩:=okWide_slice alq (hval 1 38 v1 rfl rfl);rfl) h1 rfl;obtain⟨b,rfl,_⟩:=Dy SK g1;clear hA0;refine(XU pE alo (law m b) (XQ (XR (by kernel_rfl) hL)) (.cons hl (.cons hl1 .nil))).mono fun e W' ⟨he,hb⟩=>?_
 subst he;exact⟨_,rfl,VW hW' laidOut (by rw[Tryz.params4];exact fun t ht=>by simp at ht;rcases ht with rfl|rfl <;> exact⟨by kernel_rfl,of_decide_eq_true (by kernel_rfl)⟩) rfl hb XP (by kernel_rfl) rfl rfl rfl⟩
abbrev qz:Array Value:=#[.slice none 0 0,.slice none 0 0]
theorem reads (os:Os){H:Type}(enc:TypeId×Value->H):∃places,DataW.whole enc Tryz.prog ((rp os).forCall (fun _ _=>0) ⟨#[],qz,[]⟩).memory Tryz.f4.params.toList Rows.markEquationsSpec.vars false qz.toList 8=some ([.nil,.nil],[],places):=
 ⟨[],by kernel_rfl⟩
theorem hv (os:Os):((rp os).forCall (fun _ _=>0) ⟨#[],qz,[]⟩).variablesRefB Tryz.checked.prog=true:=by kernel_rfl
theorem hr (os:Os):(((rp os).forCall (fun _ _=>0) ⟨#[],qz,[]⟩).heap.toList.drop Tryz.checked.prog.globals.size).take ((begin Tryz.checked.prog (fun _ _=>0) default).world.heap.size-Tryz.checked.prog.globals.size) =
      (begin Tryz.checked.prog (fun _ _=>0) default).world.heap.toList.drop Tryz.checked.prog.globals.size:=by kernel_rfl
theorem bT (os:Os):Input.okWideB Tryz.checked.prog ((rp os).forCall (fun _ _=>0) ⟨#[],qz,[]⟩) 4 ⟨#[],qz,[]⟩=true:=by kernel_rfl
set_option maxRecDepth 100000 in
theorem lifted (os:Os)(started:os.Started)(H:Type)(enc:TypeId×Value->H)(F:Stop.Interp) :
 ReturnsInHanded {} Tryz.checked os 4 .any ((OpenSpec.ofChange Rows.markEquationsSpec).preRow enc Tryz.prog Tryz.f4 Rows.markEquationsRow.domain false Rows.markEquationsRow.laid) (((OpenSpec.ofChange Rows.markEquationsSpec).at F).post enc Tryz.prog Tryz.f4 false true false false):=by
 obtain⟨places,hx⟩:=reads os enc;refine returnsInHanded_of_row (C:=Tryz.checked) (s:=OpenSpec.ofChange Rows.markEquationsSpec) own started (by kernel_rfl) Tryz.func4
   (witness_row_atRef (enc:=enc) (C:=Tryz.checked) false (rp os) qz rfl (hv os) (hr os) (bT os)
     (OpenSpec.preRow_of_cond 8 hx (by kernel_rfl) (fun k hk=>by cases hk) (by kernel_rfl) (XT os _))) ?_
 intro W base args ds gs before hval hW _ _ _ hL _ _;exact alv H enc W base args ds gs before hval hW hL
end Go.Proofs.YtcjphdmkgmkabaaGreatDoor.markEquations
