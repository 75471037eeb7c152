/-
  Own work: MarkNumbers: for all texts the law answers true: the row's contract and its start.
-/
import Derived.Test.YtcjphdmkgmkabaaGreatDoorLib6
import Derived.Test.YtcjphdmkgmkabaaGreatDoorLib2
import Derived.Deep.Strs
set_option maxHeartbeats 8000000
set_option maxRecDepth 20000
namespace Go.Proofs.YtcjphdmkgmkabaaGreatDoor.markNumbers
open Go.Ab Go.Ab.Ch1 Go.ChangeShapes Go.WideShapes Go.ChangeAt Go.RowKit
open Go.ChangeMaps (open_string)
theorem PL:Tryz.prog.underlying 75=some .string:=by kernel_rfl
theorem law (a b:List UInt8):aT (aV Tryz.prog Go.Ab.Ch1.FT Gh) 16 [.str a,.str b] [] ⟨.bool true,[],[]⟩:=w16 c16 a b
set_option maxRecDepth 100000 in
theorem agG (H:Type)(enc:TypeId×Value->H)(W:World)(base:Nat)(args:Array Value)(ds gs:List (DataW H))(before:List MemPlace)
 (hval:∀(j:Nat) t v,Tryz.f16.params[j]? = some t->args[j]? = some v->Value.okWide Tryz.prog W .any base t v)
 (hW:DataW.Whole enc Tryz.prog Tryz.f16.params.toList Rows.markNumbersSpec.vars false W args.toList ds gs before) (hL:laidMetH Tryz.prog Rows.markNumbersRow.laid W) :
 Calls Tryz.prog 16 args W fun e W'=>∃v,e = .returned v/\Rows.markNumbersSpec.post enc Tryz.prog Tryz.f16 false true false false W args v W':=by
 have hW':=hW;obtain⟨p,q,hA0,hV,rfl,hfz,hnd⟩:=hW;have hA:DataW.TrodAll enc Tryz.prog W 0 (fun _=>true) true Tryz.f16.params.toList args.toList ds p:=hA0;rw[Tryz.params16]at hA hval;obtain⟨v0,vs0,d0,ds0,p0,q0,hargs,rfl,rfl,h0,r0⟩:=trodAll_cons hA;obtain⟨v1,vs1,d1,ds1,p1,q1,rfl,rfl,rfl,h1,r1⟩:=trodAll_cons r0;obtain⟨rfl,rfl,rfl⟩:=trodAll_nil r1;obtain rfl:args = #[v0,v1]:=by cases args;simp_all
 obtain⟨rfl,rfl⟩:=trodVars_none hV;obtain⟨a,rfl,rfl,rfl,m0⟩:=open_string PL (hval 0 75 v0 rfl rfl) h0;obtain⟨b,rfl,rfl,rfl,m1⟩:=open_string PL (hval 1 75 v1 rfl rfl) h1;clear hA0;refine(Uz qe agD (law a.data.toList b.data.toList) (Uv (Uw (by kernel_rfl) hL)) (.cons (V.uw a) (.cons (V.uw b) .nil))).mono fun e W' ⟨he,hb⟩=>?_
 subst he;exact⟨_,rfl,SK hW' laidOut (by rw[Tryz.params16];exact fun t ht=>by simp at ht;subst ht;exact⟨by kernel_rfl,of_decide_eq_true (by kernel_rfl)⟩) rfl hb Uu (by kernel_rfl) rfl rfl rfl⟩
abbrev pf:Array Value:=#[.string ⟨#[]⟩,.string ⟨#[]⟩]
theorem reads (os:Os){H:Type}(enc:TypeId×Value->H):∃places,DataW.whole enc Tryz.prog ((qf os).forCall (fun _ _=>0) ⟨#[],pf,[]⟩).memory Tryz.f16.params.toList Rows.markNumbersSpec.vars false pf.toList 8=some ([.lit (.string []),.lit (.string [])],[],places):=
 ⟨[],by kernel_rfl⟩
theorem hv (os:Os):((qf os).forCall (fun _ _=>0) ⟨#[],pf,[]⟩).variablesRefB Tryz.checked.prog=true:=by kernel_rfl
theorem hr (os:Os):(((qf os).forCall (fun _ _=>0) ⟨#[],pf,[]⟩).heap.toList.drop Tryz.checked.prog.globals.size).take ((begin Tryz.checked.prog (fun _ _=>0) default).world.heap.size-Tryz.checked.prog.globals.size) =
      (begin Tryz.checked.prog (fun _ _=>0) default).world.heap.toList.drop Tryz.checked.prog.globals.size:=by kernel_rfl
theorem bH (os:Os):Input.okWideB Tryz.checked.prog ((qf os).forCall (fun _ _=>0) ⟨#[],pf,[]⟩) 16 ⟨#[],pf,[]⟩=true:=by kernel_rfl
set_option maxRecDepth 100000 in
theorem lifted (os:Os)(started:os.Started)(H:Type)(enc:TypeId×Value->H)(F:Stop.Interp) :
 ReturnsInHanded {} Tryz.checked os 16 .any ((OpenSpec.ofChange Rows.markNumbersSpec).preRow enc Tryz.prog Tryz.f16 Rows.markNumbersRow.domain false Rows.markNumbersRow.laid) (((OpenSpec.ofChange Rows.markNumbersSpec).at F).post enc Tryz.prog Tryz.f16 false true false false):=by
 obtain⟨places,hx⟩:=reads os enc;refine returnsInHanded_of_row (C:=Tryz.checked) (s:=OpenSpec.ofChange Rows.markNumbersSpec) own started (by kernel_rfl) Tryz.func16
   (witness_row_atRef (enc:=enc) (C:=Tryz.checked) false (qf os) pf rfl (hv os) (hr os) (bH os)
     (OpenSpec.preRow_of_cond 8 hx (by kernel_rfl) (fun k hk=>by cases hk) (by kernel_rfl) (Uy os _))) ?_
 intro W base args ds gs before hval hW _ _ _ hL _ _;exact agG H enc W base args ds gs before hval hW hL
end Go.Proofs.YtcjphdmkgmkabaaGreatDoor.markNumbers
