/-
  Own work: FinishRounds: for all spans, triples of times and samples the law answers true: the row's contract and its start.
-/
import Derived.Test.YtmngppcmhfhgaaaGreatDoorLib6
import Derived.Test.YtmngppcmhfhgaaaGreatDoorLib1
import Derived.Deep.Strs
set_option maxHeartbeats 8000000
set_option maxRecDepth 20000
namespace Go.Proofs.YtmngppcmhfhgaaaGreatDoor.finishRounds
open Go.Ab Go.Ab.Ch5 Go.Ab.Ch5.N Go.ChangeShapes Go.WideShapes Go.ChangeAt Go.RowKit
open Go.ChangeMaps (open_string)
set_option maxRecDepth 100000
theorem law (a b:List UInt8)(x y z:Int)(l:List Int):bm (bD Tryz.prog Go.Ab.Ch5.FT An) 8 [.agg [.str a,.str b],.agg [.int .i64 x,.int .i64 y,.int .i64 z],.vs (ints l) l.length none] [] ⟨.bool true,[],[]⟩:=w8 c8 a b x y z l
theorem ahB:nw Tryz.prog 8 44=some [.str,.str]:=by kernel_rfl
theorem ahC:BO Tryz.prog 44=true:=by kernel_rfl
theorem ahD:Tryz.prog.underlying 88=some (.array 3 3):=by kernel_rfl
theorem ahE:Tryz.prog.cellsOf 88=3:=by kernel_rfl
theorem ahF (c:List AV)(h:fF [.str,.str] c):∃a b:List UInt8,c=[.str a,.str b]:=by
 simp only[fF,Has]at h;obtain⟨_,_,rfl,⟨s,rfl,_⟩,_,_,rfl,⟨k,rfl,_⟩,rfl⟩:=h;exact⟨s,k,rfl⟩
theorem ahG (W:World)(x y z:Int):V bare W (.agg [.int .i64 x,.int .i64 y,.int .i64 z]) (.agg #[.int .i64 x,.int .i64 y,.int .i64 z]):=.agg (m:=[.int .i64 x,.int .i64 y,.int .i64 z]) rfl fun i a b ha hb=>by
 match i,ha,hb with
 | 0,ha,hb=>cases ha;cases hb;exact .int _ _
 | 1,ha,hb=>cases ha;cases hb;exact .int _ _
 | 2,ha,hb=>cases ha;cases hb;exact .int _ _
theorem ahH {H:Type}{enc:TypeId×Value->H}{W:World}{P:Program}{t e:TypeId}{v:Value}{d:DataW H}{ps:List MemPlace}{base:Nat}{sp:Nat->Bool}(ht:P.underlying t=some (.array 3 e))(he:P.underlying e=some (.int .i64))(hc:P.cellsOf e=1)(hct:P.cellsOf t=3)(hval:Value.okWide P W .any base t v)(h:DataW.Trod enc P W 0 sp true t v d ps):∃a b c:Int,v = .agg #[.int .i64 a,.int .i64 b,.int .i64 c]:=by
 simp only[Value.okWide,ht]at hval;obtain⟨cs,rfl,hsz,_⟩:=hval;rw[hct]at hsz;obtain⟨fuel,hf⟩:=h;obtain⟨xs,m,rfl,_,_,hxl,hx⟩:=DataW.trod_array ht hf;obtain⟨l⟩:=cs;match l,hsz with
 | [c0,c1,c2],_=>
  have g0:=hx 0 ac;have g1:=hx 1 ac;have g2:=hx 2 ac;rw[hc]at g0 g1 g2;rw[List.getElem?_eq_getElem ac]at g0 g1 g2;obtain⟨a,h0,_,_⟩:=DataW.trod_int he g0;obtain⟨b,h1,_,_⟩:=DataW.trod_int he g1;obtain⟨c,h2,_,_⟩:=DataW.trod_int he g2;simp[Value.cells]at h0 h1 h2;rw[h0,h1,h2];exact⟨a,b,c,rfl⟩
theorem ahI (H:Type)(enc:TypeId×Value->H)(W:World)(base:Nat)(args:Array Value)(ds gs:List (DataW H))(before:List MemPlace)
 (hval:∀(j:Nat) t v,Tryz.f8.params[j]? = some t->args[j]? = some v->Value.okWide Tryz.prog W .any base t v)
 (hW:DataW.Whole enc Tryz.prog Tryz.f8.params.toList Rows.finishRoundsSpec.vars false W args.toList ds gs before) (hL:laidMetH Tryz.prog Rows.finishRoundsRow.laid W) :
 Calls Tryz.prog 8 args W fun e W'=>∃v,e = .returned v/\Rows.finishRoundsSpec.post enc Tryz.prog Tryz.f8 false true false false W args v W':=by
 have hW':=hW;obtain⟨p,q,hA0,hV,rfl,hfz,hnd⟩:=hW;have hA:DataW.TrodAll enc Tryz.prog W 0 (fun _=>true) true Tryz.f8.params.toList args.toList ds p:=hA0;rw[Tryz.params8]at hA hval;obtain⟨v0,vs0,d0,ds0,p0,q0,hargs,rfl,rfl,h0,r0⟩:=trodAll_cons hA;obtain⟨v1,vs1,d1,ds1,p1,q1,rfl,rfl,rfl,h1,r1⟩:=trodAll_cons r0;obtain⟨v2,vs2,d2,ds2,p2,q2,rfl,rfl,rfl,h2,r2⟩:=trodAll_cons r1;obtain⟨rfl,rfl,rfl⟩:=trodAll_nil r2;obtain rfl:args = #[v0,v1,v2]:=by cases args;simp_all
 obtain⟨rfl,rfl⟩:=trodVars_none hV;obtain⟨cs0,hcs0⟩:=Tx ahC (hval 0 44 v0 rfl rfl);obtain⟨x0,g0,ha0⟩:=Tw ahB hcs0 h0;obtain⟨a,b,rfl⟩:=ahF _ g0;obtain⟨x,y,z,rfl⟩:=ahH ahD Ji Jk ahE (hval 1 88 v1 rfl rfl) h1;obtain⟨l,hl⟩:=Ts Vq Ji Jk (hval 2 76 v2 rfl rfl) h2;clear hA0;refine(Go.Ab.Jm iu ahA (law a b x y z l) (Vp (Vr (by kernel_rfl) hL)) (.cons ha0 (.cons (ahG W x y z) (.cons hl .nil)))).mono fun e W' ⟨he,hb⟩=>?_
 subst he;exact⟨_,rfl,SS hW' laidOut (by rw[Tryz.params8];exact fun t ht=>by simp at ht;rcases ht with rfl|rfl|rfl <;> exact⟨by kernel_rfl,of_decide_eq_true (by kernel_rfl)⟩) rfl hb Vo (by kernel_rfl) rfl rfl rfl⟩
theorem Jl (os:Os)(args:Array Value):laidMet Tryz.prog Rows.finishRoundsRow.laid ((pn os).forCall (fun _ _=>0) ⟨#[],args,[]⟩).memory:=
 laidMet_of_run' 8 (by kernel_rfl) (by kernel_rfl)
abbrev pY:Array Value:=#[.agg #[.string ⟨#[]⟩,.string ⟨#[]⟩],.agg #[.int .i64 0,.int .i64 0,.int .i64 0],.slice none 0 0]
theorem reads (os:Os){H:Type}(enc:TypeId×Value->H):∃places,DataW.whole enc Tryz.prog ((pn os).forCall (fun _ _=>0) ⟨#[],pY,[]⟩).memory Tryz.f8.params.toList Rows.finishRoundsSpec.vars false pY.toList 8=some ([.agg [.lit (.string []),.lit (.string [])],.agg [.lit (.int .i64 0),.lit (.int .i64 0),.lit (.int .i64 0)],.nil],[],places):=
 ⟨[],by kernel_rfl⟩
theorem hv (os:Os):((pn os).forCall (fun _ _=>0) ⟨#[],pY,[]⟩).variablesRefB Tryz.checked.prog=true:=by kernel_rfl
theorem hr (os:Os):(((pn os).forCall (fun _ _=>0) ⟨#[],pY,[]⟩).heap.toList.drop Tryz.checked.prog.globals.size).take ((begin Tryz.checked.prog (fun _ _=>0) default).world.heap.size-Tryz.checked.prog.globals.size) =
      (begin Tryz.checked.prog (fun _ _=>0) default).world.heap.toList.drop Tryz.checked.prog.globals.size:=by kernel_rfl
theorem cw (os:Os):Input.okWideB Tryz.checked.prog ((pn os).forCall (fun _ _=>0) ⟨#[],pY,[]⟩) 8 ⟨#[],pY,[]⟩=true:=by kernel_rfl
theorem lifted (os:Os)(started:os.Started)(H:Type)(enc:TypeId×Value->H)(F:Stop.Interp) :
 ReturnsInHanded {} Tryz.checked os 8 .any ((OpenSpec.ofChange Rows.finishRoundsSpec).preRow enc Tryz.prog Tryz.f8 Rows.finishRoundsRow.domain false Rows.finishRoundsRow.laid) (((OpenSpec.ofChange Rows.finishRoundsSpec).at F).post enc Tryz.prog Tryz.f8 false true false false):=by
 obtain⟨places,hx⟩:=reads os enc;refine returnsInHanded_of_row (C:=Tryz.checked) (s:=OpenSpec.ofChange Rows.finishRoundsSpec) own started (by kernel_rfl) Tryz.func8
   (witness_row_atRef (enc:=enc) (C:=Tryz.checked) false (pn os) pY rfl (hv os) (hr os) (cw os)
     (OpenSpec.preRow_of_cond 8 hx (by kernel_rfl) (fun k hk=>by cases hk) (by kernel_rfl) (Jl os _))) ?_
 intro W base args ds gs before hval hW _ _ _ hL _ _;exact ahI H enc W base args ds gs before hval hW hL
end Go.Proofs.YtmngppcmhfhgaaaGreatDoor.finishRounds
