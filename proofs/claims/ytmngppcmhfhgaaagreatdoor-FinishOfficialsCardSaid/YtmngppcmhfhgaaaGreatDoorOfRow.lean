/-
  Own work: FinishOfficials: for all spans and classes the law answers true: the row's contract and its start.
-/
import Derived.Test.YtmngppcmhfhgaaaGreatDoorLib6
import Derived.Test.YtmngppcmhfhgaaaGreatDoorLib1
import Derived.Deep.Strs
set_option maxHeartbeats 8000000
set_option maxRecDepth 20000
namespace Go.Proofs.YtmngppcmhfhgaaaGreatDoor.finishOfficials
open Go.Ab Go.Ab.Ch5 Go.Ab.Ch5.N Go.ChangeShapes Go.WideShapes Go.ChangeAt Go.RowKit
open Go.ChangeMaps (open_string)
set_option maxRecDepth 100000
theorem law (a b c:List UInt8):bg (bz Tryz.prog Go.Ab.Ch5.FT yR) 5 [.agg [.str a,.str b],.str c] [] ⟨.bool true,[],[]⟩:=w5 c5 a b c
theorem aeE:mK Tryz.prog 8 44=some [.str,.str]:=by kernel_rfl
theorem aeF:AN Tryz.prog 44=true:=by kernel_rfl
theorem aeG (c:List AV)(h:fv [.str,.str] c):∃a b:List UInt8,c=[.str a,.str b]:=by
 simp only[fv,Has]at h;obtain⟨_,_,rfl,⟨s,rfl,_⟩,_,_,rfl,⟨k,rfl,_⟩,rfl⟩:=h;exact⟨s,k,rfl⟩
theorem aeH (H:Type)(enc:TypeId×Value->H)(W:World)(base:Nat)(args:Array Value)(ds gs:List (DataW H))(before:List MemPlace)
 (hval:∀(j:Nat) t v,Tryz.f5.params[j]? = some t->args[j]? = some v->Value.okWide Tryz.prog W .any base t v)
 (hW:DataW.Whole enc Tryz.prog Tryz.f5.params.toList Rows.finishOfficialsSpec.vars false W args.toList ds gs before) (hL:laidMetH Tryz.prog Rows.finishOfficialsRow.laid W) :
 Calls Tryz.prog 5 args W fun e W'=>∃v,e = .returned v/\Rows.finishOfficialsSpec.post enc Tryz.prog Tryz.f5 false true false false W args v W':=by
 have hW':=hW;obtain⟨p,q,hA0,hV,rfl,hfz,hnd⟩:=hW;have hA:DataW.TrodAll enc Tryz.prog W 0 (fun _=>true) true Tryz.f5.params.toList args.toList ds p:=hA0;rw[Tryz.params5]at hA hval;obtain⟨v0,vs0,d0,ds0,p0,q0,hargs,rfl,rfl,h0,r0⟩:=trodAll_cons hA;obtain⟨v1,vs1,d1,ds1,p1,q1,rfl,rfl,rfl,h1,r1⟩:=trodAll_cons r0;obtain⟨rfl,rfl,rfl⟩:=trodAll_nil r1;obtain rfl:args = #[v0,v1]:=by cases args;simp_all
 obtain⟨rfl,rfl⟩:=trodVars_none hV;obtain⟨cs0,hcs0⟩:=Rt aeF (hval 0 44 v0 rfl rfl);obtain⟨x0,g0,ha0⟩:=Rs aeE hcs0 h0;obtain⟨a,b,rfl⟩:=aeG _ g0;obtain⟨c,rfl,rfl,rfl,m1⟩:=open_string Tf (hval 1 9 v1 rfl rfl) h1;clear hA0;refine(Go.Ab.HZ iN aeC (law a b c.data.toList) (Tg (Th (by kernel_rfl) hL)) (.cons ha0 (.cons (V.uc c) .nil))).mono fun e W' ⟨he,hb⟩=>?_
 subst he;exact⟨_,rfl,QT hW' laidOut (by rw[Tryz.params5];exact fun t ht=>by simp at ht;rcases ht with rfl|rfl <;> exact⟨by kernel_rfl,of_decide_eq_true (by kernel_rfl)⟩) rfl hb Te (by kernel_rfl) rfl rfl rfl⟩
theorem HY (os:Os)(args:Array Value):laidMet Tryz.prog Rows.finishOfficialsRow.laid ((oh os).forCall (fun _ _=>0) ⟨#[],args,[]⟩).memory:=
 laidMet_of_run' 8 (by kernel_rfl) (by kernel_rfl)
abbrev pg:Array Value:=#[.agg #[.string ⟨#[]⟩,.string ⟨#[]⟩],.string ⟨#[]⟩]
theorem reads (os:Os){H:Type}(enc:TypeId×Value->H):∃places,DataW.whole enc Tryz.prog ((oh os).forCall (fun _ _=>0) ⟨#[],pg,[]⟩).memory Tryz.f5.params.toList Rows.finishOfficialsSpec.vars false pg.toList 8=some ([.agg [.lit (.string []),.lit (.string [])],.lit (.string [])],[],places):=
 ⟨[],by kernel_rfl⟩
theorem hv (os:Os):((oh os).forCall (fun _ _=>0) ⟨#[],pg,[]⟩).variablesRefB Tryz.checked.prog=true:=by kernel_rfl
theorem hr (os:Os):(((oh os).forCall (fun _ _=>0) ⟨#[],pg,[]⟩).heap.toList.drop Tryz.checked.prog.globals.size).take ((begin Tryz.checked.prog (fun _ _=>0) default).world.heap.size-Tryz.checked.prog.globals.size) =
      (begin Tryz.checked.prog (fun _ _=>0) default).world.heap.toList.drop Tryz.checked.prog.globals.size:=by kernel_rfl
theorem cj (os:Os):Input.okWideB Tryz.checked.prog ((oh os).forCall (fun _ _=>0) ⟨#[],pg,[]⟩) 5 ⟨#[],pg,[]⟩=true:=by kernel_rfl
theorem lifted (os:Os)(started:os.Started)(H:Type)(enc:TypeId×Value->H)(F:Stop.Interp) :
 ReturnsInHanded {} Tryz.checked os 5 .any ((OpenSpec.ofChange Rows.finishOfficialsSpec).preRow enc Tryz.prog Tryz.f5 Rows.finishOfficialsRow.domain false Rows.finishOfficialsRow.laid) (((OpenSpec.ofChange Rows.finishOfficialsSpec).at F).post enc Tryz.prog Tryz.f5 false true false false):=by
 obtain⟨places,hx⟩:=reads os enc;refine returnsInHanded_of_row (C:=Tryz.checked) (s:=OpenSpec.ofChange Rows.finishOfficialsSpec) own started (by kernel_rfl) Tryz.func5
   (witness_row_atRef (enc:=enc) (C:=Tryz.checked) false (oh os) pg rfl (hv os) (hr os) (cj os)
     (OpenSpec.preRow_of_cond 8 hx (by kernel_rfl) (fun k hk=>by cases hk) (by kernel_rfl) (HY os _))) ?_
 intro W base args ds gs before hval hW _ _ _ hL _ _;exact aeH H enc W base args ds gs before hval hW hL
end Go.Proofs.YtmngppcmhfhgaaaGreatDoor.finishOfficials
