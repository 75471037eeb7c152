/-
  Own work: MarkTables: for all tables and numbers the law answers true: the row's contract and its start.
-/
import Derived.Test.YtcjphdmkgmkabaaGreatDoorLib13
import Derived.Test.YtcjphdmkgmkabaaGreatDoorLib5
import Derived.Test.YtcjphdmkgmkabaaGreatDoorLib4
import Derived.Deep.Strs
set_option maxHeartbeats 8000000
set_option maxRecDepth 20000
namespace Go.Proofs.YtcjphdmkgmkabaaGreatDoor.markTables
open Go.Ab Go.Ab.Ch1 Go.ChangeShapes Go.WideShapes Go.ChangeAt Go.RowKit
open Go.ChangeMaps (open_string)
theorem aif:Tryz.prog.underlying 75=some .string:=by kernel_rfl
theorem aih:Tryz.prog.underlying 83=some (.slice 91):=by kernel_rfl
theorem aii:mK Tryz.prog 8 83=some [.slice [.str,.str]]:=by kernel_rfl
theorem aij (c:List AV)(h:dV [.str,.str] c):∃a:ah×ah,c=fP a:=by
 simp only[dV,Has]at h;obtain⟨_,_,rfl,⟨s,rfl,_⟩,_,_,rfl,⟨k,rfl,_⟩,rfl⟩:=h;exact⟨(s,k),rfl⟩
theorem law (t:List (ah×ah))(x:List UInt8):aS (aY Tryz.prog Go.Ab.Ch1.FT GS) 14 [.vs (arr fP t) t.length none,.str x] [] ⟨.bool true,[],[]⟩:=w14 c14 t x
set_option maxRecDepth 100000 in
theorem aik (H:Type)(enc:TypeId×Value->H)(W:World)(base:Nat)(args:Array Value)(ds gs:List (DataW H))(before:List MemPlace)
 (hval:∀(j:Nat) t v,Tryz.f14.params[j]? = some t->args[j]? = some v->Value.okWide Tryz.prog W .any base t v)
 (hW:DataW.Whole enc Tryz.prog Tryz.f14.params.toList Rows.markTablesSpec.vars false W args.toList ds gs before) (hL:laidMetH Tryz.prog Rows.markTablesRow.laid W) :
 Calls Tryz.prog 14 args W fun e W'=>∃v,e = .returned v/\Rows.markTablesSpec.post enc Tryz.prog Tryz.f14 false true false false W args v W':=by
 have hW':=hW;obtain⟨p,q,hA0,hV,rfl,hfz,hnd⟩:=hW;have hA:DataW.TrodAll enc Tryz.prog W 0 (fun _=>true) true Tryz.f14.params.toList args.toList ds p:=hA0;rw[Tryz.params14]at hA hval;obtain⟨v0,vs0,d0,ds0,p0,q0,hargs,rfl,rfl,h0,r0⟩:=trodAll_cons hA;obtain⟨v1,vs1,d1,ds1,p1,q1,rfl,rfl,rfl,h1,r1⟩:=trodAll_cons r0;obtain⟨rfl,rfl,rfl⟩:=trodAll_nil r1;obtain rfl:args = #[v0,v1]:=by cases args;simp_all
 obtain⟨rfl,rfl⟩:=trodVars_none hV;obtain⟨x0,g0,hl⟩:=UC aii (by obtain⟨_,_,_,rfl⟩:=okWide_slice aih (hval 0 83 v0 rfl rfl);rfl) h0 rfl;obtain⟨l,rfl,_⟩:=UD aij g0;obtain⟨a,rfl,rfl,rfl,m1⟩:=open_string aif (hval 1 75 v1 rfl rfl) h1;clear hA0;refine(VK qm aid (law l a.data.toList) (VG (VH (by kernel_rfl) hL)) (.cons hl (.cons (V.uT a) .nil))).mono fun e W' ⟨he,hb⟩=>?_
 subst he;exact⟨_,rfl,TN hW' laidOut (by rw[Tryz.params14];exact fun t ht=>by simp at ht;rcases ht with rfl|rfl <;> exact⟨by kernel_rfl,of_decide_eq_true (by kernel_rfl)⟩) rfl hb VF (by kernel_rfl) rfl rfl rfl⟩
abbrev py:Array Value:=#[.slice none 0 0,.string ⟨#[]⟩]
theorem reads (os:Os){H:Type}(enc:TypeId×Value->H):∃places,DataW.whole enc Tryz.prog ((qo os).forCall (fun _ _=>0) ⟨#[],py,[]⟩).memory Tryz.f14.params.toList Rows.markTablesSpec.vars false py.toList 8=some ([.nil,.lit (.string [])],[],places):=
 ⟨[],by kernel_rfl⟩
theorem hv (os:Os):((qo os).forCall (fun _ _=>0) ⟨#[],py,[]⟩).variablesRefB Tryz.checked.prog=true:=by kernel_rfl
theorem hr (os:Os):(((qo os).forCall (fun _ _=>0) ⟨#[],py,[]⟩).heap.toList.drop Tryz.checked.prog.globals.size).take ((begin Tryz.checked.prog (fun _ _=>0) default).world.heap.size-Tryz.checked.prog.globals.size) =
      (begin Tryz.checked.prog (fun _ _=>0) default).world.heap.toList.drop Tryz.checked.prog.globals.size:=by kernel_rfl
theorem bE (os:Os):Input.okWideB Tryz.checked.prog ((qo os).forCall (fun _ _=>0) ⟨#[],py,[]⟩) 14 ⟨#[],py,[]⟩=true:=by kernel_rfl
set_option maxRecDepth 100000 in
theorem lifted (os:Os)(started:os.Started)(H:Type)(enc:TypeId×Value->H)(F:Stop.Interp) :
 ReturnsInHanded {} Tryz.checked os 14 .any ((OpenSpec.ofChange Rows.markTablesSpec).preRow enc Tryz.prog Tryz.f14 Rows.markTablesRow.domain false Rows.markTablesRow.laid) (((OpenSpec.ofChange Rows.markTablesSpec).at F).post enc Tryz.prog Tryz.f14 false true false false):=by
 obtain⟨places,hx⟩:=reads os enc;refine returnsInHanded_of_row (C:=Tryz.checked) (s:=OpenSpec.ofChange Rows.markTablesSpec) own started (by kernel_rfl) Tryz.func14
   (witness_row_atRef (enc:=enc) (C:=Tryz.checked) false (qo os) py rfl (hv os) (hr os) (bE os)
     (OpenSpec.preRow_of_cond 8 hx (by kernel_rfl) (fun k hk=>by cases hk) (by kernel_rfl) (VJ os _))) ?_
 intro W base args ds gs before hval hW _ _ _ hL _ _;exact aik H enc W base args ds gs before hval hW hL
end Go.Proofs.YtcjphdmkgmkabaaGreatDoor.markTables
