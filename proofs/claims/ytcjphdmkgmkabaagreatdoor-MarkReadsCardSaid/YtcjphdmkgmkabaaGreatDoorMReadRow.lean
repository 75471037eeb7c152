/-
  Own work: MarkReads: for all marks the law answers true: the row's contract and its start.
-/
import Derived.Test.YtcjphdmkgmkabaaGreatDoorLib9
import Derived.Deep.Strs
set_option maxHeartbeats 8000000
set_option maxRecDepth 20000
namespace Go.Proofs.YtcjphdmkgmkabaaGreatDoor.markReads
open Go.Ab Go.Ab.Ch1 Go.ChangeShapes Go.WideShapes Go.ChangeAt Go.RowKit
open Go.ChangeMaps (open_string)
theorem JU:∃f0 f1 f2,Tryz.prog.underlying 49=some (.struct #[f0,f1,f2])/\f0.type=9/\f0.offset=0/\f1.type=3/\f1.offset=1/\f2.type=9/\f2.offset=2:=
 ⟨{ name := "Kind", type := 9, offset := 0, embedded := false, tag := "", pkgPath := "", byteOffset := 0 }, { name := "Value", type := 3, offset := 1, embedded := false, tag := "", pkgPath := "", byteOffset := 16 }, { name := "Reason", type := 9, offset := 2, embedded := false, tag := "", pkgPath := "", byteOffset := 24 }, by kernel_rfl, rfl, rfl, rfl, rfl, rfl, rfl⟩
theorem JV:Tryz.prog.cellsOf 9=1:=by kernel_rfl
theorem JW:Tryz.prog.cellsOf 3=1:=by kernel_rfl
theorem JX:Tryz.prog.cellsOf 49=3:=by kernel_rfl
set_option maxRecDepth 100000 in
theorem yQ {H:Type}{enc:TypeId×Value->H}{W:World}{base:Nat}{sp:Nat->Bool}{v:Value}{d:DataW H}{ps:List MemPlace}(hval:Value.okWide Tryz.prog W .any base 49 v)(h:DataW.Trod enc Tryz.prog W 0 sp true 49 v d ps) :
 ∃(k:ByteArray) (n:Int) (r:ByteArray),v = .agg #[.string k,.int .i64 n,.string r]/\d = .agg [.lit (.string k.data.toList),.lit (.int .i64 n),.lit (.string r.data.toList)]/\ps=[]:=by
 obtain⟨f0,f1,f2,hu,e0,o0,e1,o1,e2,o2⟩:=JU;obtain⟨cs,rfl,hsz⟩:=okWide_struct hu hval;rw[JX]at hsz;obtain⟨fuel,hf⟩:=h;obtain⟨l⟩:=cs;match l,hsz with
 | [c0,c1,c2],_=>
  obtain⟨y0,y1,y2,n,hx,_,t0,t1,t2⟩:=Go.Deep.trod_struct3 hu hf;simp only[e0,o0,e1,o1,e2,o2,JV,JW,Value.cells,List.drop,List.take]at t0 t1 t2;obtain⟨k,a0,rfl,_⟩:=DataW.trod_string uL t0;obtain⟨z,a1,rfl,_⟩:=DataW.trod_int DC t1;obtain⟨r,a2,rfl,_⟩:=DataW.trod_string uL t2;simp only[List.cons.injEq,and_true]at a0 a1 a2;subst a0;subst a1;subst a2;simp only[Prod.mk.injEq,List.nil_append]at hx;exact⟨k,z,r,rfl,hx.1,hx.2⟩
theorem yR {W:World}(k:ByteArray)(n:Int)(r:ByteArray):V bare W (dx k.data.toList n r.data.toList) (.agg #[.string k,.int .i64 n,.string r]):=
 .agg (m:=[.string k,.int .i64 n,.string r]) rfl fun i x y hx hy=>by
  match i,hx,hy with
  | 0,hx,hy=>cases hx;cases hy;exact V.me k
  | 1,hx,hy=>cases hx;cases hy;exact .int _ _
  | 2,hx,hy=>cases hx;cases hy;exact V.me r
theorem law (k:List UInt8)(v:Int)(r k':List UInt8)(v':Int)(r':List UInt8):aJ (bA Tryz.prog Go.Ab.Ch1.FT su) 12 [dx k v r,dx k' v' r'] [] ⟨.bool true,[],[]⟩:=JR JT k v r k' v' r'
set_option maxRecDepth 100000 in
theorem JY (H:Type)(enc:TypeId×Value->H)(W:World)(base:Nat)(args:Array Value)(ds gs:List (DataW H))(before:List MemPlace)
 (hval:∀(j:Nat) t v,Tryz.f12.params[j]? = some t->args[j]? = some v->Value.okWide Tryz.prog W .any base t v)
 (hW:DataW.Whole enc Tryz.prog Tryz.f12.params.toList Rows.markReadsSpec.vars false W args.toList ds gs before) (hL:laidMetH Tryz.prog Rows.markReadsRow.laid W) :
 Calls Tryz.prog 12 args W fun e W'=>∃v,e = .returned v/\Rows.markReadsSpec.post enc Tryz.prog Tryz.f12 false true false false W args v W':=by
 have hW':=hW;obtain⟨p,q,hA0,hV,rfl,hfz,hnd⟩:=hW;have hA:DataW.TrodAll enc Tryz.prog W 0 (fun _=>true) true Tryz.f12.params.toList args.toList ds p:=hA0;rw[Tryz.params12]at hA hval;obtain⟨v0,vs0,d0,ds0,p0,q0,hargs,rfl,rfl,h0,r0⟩:=trodAll_cons hA;obtain⟨v1,vs1,d1,ds1,p1,q1,rfl,rfl,rfl,h1,r1⟩:=trodAll_cons r0;obtain⟨rfl,rfl,rfl⟩:=trodAll_nil r1;obtain rfl:args = #[v0,v1]:=by cases args;simp_all
 obtain⟨rfl,rfl⟩:=trodVars_none hV;obtain⟨k,n,r,rfl,rfl,rfl⟩:=yQ (hval 0 49 v0 rfl rfl) h0;obtain⟨k',n',r',rfl,rfl,rfl⟩:=yQ (hval 1 49 v1 rfl rfl) h1;clear hA0;refine(DM eG JS (law k.data.toList n r.data.toList k'.data.toList n' r'.data.toList) (DE (DG (by kernel_rfl) hL)) (.cons (yR k n r) (.cons (yR k' n' r') .nil))).mono fun e W' ⟨he,hb⟩=>?_
 subst he;exact⟨_,rfl,BW hW' laidOut (by rw[Tryz.params12];exact fun t ht=>by simp at ht;rcases ht with rfl <;> exact⟨by kernel_rfl,of_decide_eq_true (by kernel_rfl)⟩) rfl hb DD (by kernel_rfl) rfl rfl rfl⟩
abbrev jq:Array Value:=#[.agg #[.string ⟨#[]⟩,.int .i64 0,.string ⟨#[]⟩],.agg #[.string ⟨#[]⟩,.int .i64 0,.string ⟨#[]⟩]]
theorem reads (os:Os){H:Type}(enc:TypeId×Value->H):∃places,DataW.whole enc Tryz.prog ((jW os).forCall (fun _ _=>0) ⟨#[],jq,[]⟩).memory Tryz.f12.params.toList Rows.markReadsSpec.vars false jq.toList 8=some ([.agg [.lit (.string []),.lit (.int .i64 0),.lit (.string [])],.agg [.lit (.string []),.lit (.int .i64 0),.lit (.string [])]],[],places):=
 ⟨[],by kernel_rfl⟩
theorem hv (os:Os):((jW os).forCall (fun _ _=>0) ⟨#[],jq,[]⟩).variablesRefB Tryz.checked.prog=true:=by kernel_rfl
theorem hr (os:Os):(((jW os).forCall (fun _ _=>0) ⟨#[],jq,[]⟩).heap.toList.drop Tryz.checked.prog.globals.size).take ((begin Tryz.checked.prog (fun _ _=>0) default).world.heap.size-Tryz.checked.prog.globals.size) =
      (begin Tryz.checked.prog (fun _ _=>0) default).world.heap.toList.drop Tryz.checked.prog.globals.size:=by kernel_rfl
theorem bF (os:Os):Input.okWideB Tryz.checked.prog ((jW os).forCall (fun _ _=>0) ⟨#[],jq,[]⟩) 12 ⟨#[],jq,[]⟩=true:=by kernel_rfl
set_option maxRecDepth 100000 in
theorem lifted (os:Os)(started:os.Started)(H:Type)(enc:TypeId×Value->H)(F:Stop.Interp) :
 ReturnsInHanded {} Tryz.checked os 12 .any ((OpenSpec.ofChange Rows.markReadsSpec).preRow enc Tryz.prog Tryz.f12 Rows.markReadsRow.domain false Rows.markReadsRow.laid) (((OpenSpec.ofChange Rows.markReadsSpec).at F).post enc Tryz.prog Tryz.f12 false true false false):=by
 obtain⟨places,hx⟩:=reads os enc;refine returnsInHanded_of_row (C:=Tryz.checked) (s:=OpenSpec.ofChange Rows.markReadsSpec) own started (by kernel_rfl) Tryz.func12
   (witness_row_atRef (enc:=enc) (C:=Tryz.checked) false (jW os) jq rfl (hv os) (hr os) (bF os)
     (OpenSpec.preRow_of_cond 8 hx (by kernel_rfl) (fun k hk=>by cases hk) (by kernel_rfl) (DI os _))) ?_
 intro W base args ds gs before hval hW _ _ _ hL _ _;exact JY H enc W base args ds gs before hval hW hL
end Go.Proofs.YtcjphdmkgmkabaaGreatDoor.markReads
