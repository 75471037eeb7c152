/-
  Own work: MarkTexts: for all marks and texts the law answers true: the row's contract and its start.
-/
import Derived.Test.YtcjphdmkgmkabaaGreatDoorLib9
import Derived.Deep.Strs
set_option maxHeartbeats 8000000
set_option maxRecDepth 20000
namespace Go.Proofs.YtcjphdmkgmkabaaGreatDoor.markTexts
open Go.Ab Go.Ab.Ch1 Go.ChangeShapes Go.WideShapes Go.ChangeAt Go.RowKit
open Go.ChangeMaps (open_string)
theorem Lx:∃f0 f1 f2,Tryz.prog.underlying 49=some (.struct #[f0,f1,f2])/\f0.type=9/\f0.offset=0/\f1.type=3/\f1.offset=1/\f2.type=9/\f2.offset=2:=
 ⟨{ name := "Kind", type := 9, offset := 0, embedded := false, tag := "", pkgPath := "", byteOffset := 0 }, { name := "Value", type := 3, offset := 1, embedded := false, tag := "", pkgPath := "", byteOffset := 16 }, { name := "Reason", type := 9, offset := 2, embedded := false, tag := "", pkgPath := "", byteOffset := 24 }, by kernel_rfl, rfl, rfl, rfl, rfl, rfl, rfl⟩
theorem Ly:Tryz.prog.cellsOf 9=1:=by kernel_rfl
theorem Lz:Tryz.prog.cellsOf 3=1:=by kernel_rfl
theorem LA:Tryz.prog.cellsOf 49=3:=by kernel_rfl
set_option maxRecDepth 100000 in
theorem LB {H:Type}{enc:TypeId×Value->H}{W:World}{base:Nat}{sp:Nat->Bool}{v:Value}{d:DataW H}{ps:List MemPlace}(hval:Value.okWide Tryz.prog W .any base 49 v)(h:DataW.Trod enc Tryz.prog W 0 sp true 49 v d ps) :
 ∃(k:ByteArray) (n:Int) (r:ByteArray),v = .agg #[.string k,.int .i64 n,.string r]/\d = .agg [.lit (.string k.data.toList),.lit (.int .i64 n),.lit (.string r.data.toList)]/\ps=[]:=by
 obtain⟨f0,f1,f2,hu,e0,o0,e1,o1,e2,o2⟩:=Lx;obtain⟨cs,rfl,hsz⟩:=okWide_struct hu hval;rw[LA]at hsz;obtain⟨fuel,hf⟩:=h;obtain⟨l⟩:=cs;match l,hsz with
 | [c0,c1,c2],_=>
  obtain⟨y0,y1,y2,n,hx,_,t0,t1,t2⟩:=Go.Deep.trod_struct3 hu hf;simp only[e0,o0,e1,o1,e2,o2,Ly,Lz,Value.cells,List.drop,List.take]at t0 t1 t2;obtain⟨k,a0,rfl,_⟩:=DataW.trod_string re t0;obtain⟨z,a1,rfl,_⟩:=DataW.trod_int EB t1;obtain⟨r,a2,rfl,_⟩:=DataW.trod_string re t2;simp only[List.cons.injEq,and_true]at a0 a1 a2;subst a0;subst a1;subst a2;simp only[Prod.mk.injEq,List.nil_append]at hx;exact⟨k,z,r,rfl,hx.1,hx.2⟩
theorem LC {W:World}(k:ByteArray)(n:Int)(r:ByteArray):V bare W (cW k.data.toList n r.data.toList) (.agg #[.string k,.int .i64 n,.string r]):=
 .agg (m:=[.string k,.int .i64 n,.string r]) rfl fun i x y hx hy=>by
  match i,hx,hy with
  | 0,hx,hy=>cases hx;cases hy;exact V.kN k
  | 1,hx,hy=>cases hx;cases hy;exact .int _ _
  | 2,hx,hy=>cases hx;cases hy;exact V.kN r
theorem law (k:List UInt8)(v:Int)(r s:List UInt8):aG (bq Tryz.prog Go.Ab.Ch1.FT sV) 6 [cW k v r,.str s] [] ⟨.bool true,[],[]⟩:=w6 Lw k v r s
set_option maxRecDepth 100000 in
theorem LD (H:Type)(enc:TypeId×Value->H)(W:World)(base:Nat)(args:Array Value)(ds gs:List (DataW H))(before:List MemPlace)
 (hval:∀(j:Nat) t v,Tryz.f6.params[j]? = some t->args[j]? = some v->Value.okWide Tryz.prog W .any base t v)
 (hW:DataW.Whole enc Tryz.prog Tryz.f6.params.toList Rows.markTextsSpec.vars false W args.toList ds gs before) (hL:laidMetH Tryz.prog Rows.markTextsRow.laid W) :
 Calls Tryz.prog 6 args W fun e W'=>∃v,e = .returned v/\Rows.markTextsSpec.post enc Tryz.prog Tryz.f6 false true false false W args v W':=by
 have hW':=hW;obtain⟨p,q,hA0,hV,rfl,hfz,hnd⟩:=hW;have hA:DataW.TrodAll enc Tryz.prog W 0 (fun _=>true) true Tryz.f6.params.toList args.toList ds p:=hA0;rw[Tryz.params6]at hA hval;obtain⟨v0,vs0,d0,ds0,p0,q0,hargs,rfl,rfl,h0,r0⟩:=trodAll_cons hA;obtain⟨v1,vs1,d1,ds1,p1,q1,rfl,rfl,rfl,h1,r1⟩:=trodAll_cons r0;obtain⟨rfl,rfl,rfl⟩:=trodAll_nil r1;obtain rfl:args = #[v0,v1]:=by cases args;simp_all
 obtain⟨rfl,rfl⟩:=trodVars_none hV;obtain⟨k,n,r,rfl,rfl,rfl⟩:=LB (hval 0 49 v0 rfl rfl) h0;obtain⟨c,rfl,rfl,rfl,hmax⟩:=open_string re (hval 1 9 v1 rfl rfl) h1;clear hA0;refine(EK eX Lv (law k.data.toList n r.data.toList c.data.toList) (ED (EE (by kernel_rfl) hL)) (.cons (LC k n r) (.cons (V.kN c) .nil))).mono fun e W' ⟨he,hb⟩=>?_
 subst he;exact⟨_,rfl,CW hW' laidOut (by rw[Tryz.params6];exact fun t ht=>by simp at ht;rcases ht with rfl|rfl <;> exact⟨by kernel_rfl,of_decide_eq_true (by kernel_rfl)⟩) rfl hb EC (by kernel_rfl) rfl rfl rfl⟩
abbrev jB:Array Value:=#[.agg #[.string ⟨#[]⟩,.int .i64 0,.string ⟨#[]⟩],.string ⟨#[]⟩]
theorem reads (os:Os){H:Type}(enc:TypeId×Value->H):∃places,DataW.whole enc Tryz.prog ((ke os).forCall (fun _ _=>0) ⟨#[],jB,[]⟩).memory Tryz.f6.params.toList Rows.markTextsSpec.vars false jB.toList 8=some ([.agg [.lit (.string []),.lit (.int .i64 0),.lit (.string [])],.lit (.string [])],[],places):=
 ⟨[],by kernel_rfl⟩
theorem hv (os:Os):((ke os).forCall (fun _ _=>0) ⟨#[],jB,[]⟩).variablesRefB Tryz.checked.prog=true:=by kernel_rfl
theorem hr (os:Os):(((ke os).forCall (fun _ _=>0) ⟨#[],jB,[]⟩).heap.toList.drop Tryz.checked.prog.globals.size).take ((begin Tryz.checked.prog (fun _ _=>0) default).world.heap.size-Tryz.checked.prog.globals.size) =
      (begin Tryz.checked.prog (fun _ _=>0) default).world.heap.toList.drop Tryz.checked.prog.globals.size:=by kernel_rfl
theorem bJ (os:Os):Input.okWideB Tryz.checked.prog ((ke os).forCall (fun _ _=>0) ⟨#[],jB,[]⟩) 6 ⟨#[],jB,[]⟩=true:=by kernel_rfl
set_option maxRecDepth 100000 in
theorem lifted (os:Os)(started:os.Started)(H:Type)(enc:TypeId×Value->H)(F:Stop.Interp) :
 ReturnsInHanded {} Tryz.checked os 6 .any ((OpenSpec.ofChange Rows.markTextsSpec).preRow enc Tryz.prog Tryz.f6 Rows.markTextsRow.domain false Rows.markTextsRow.laid) (((OpenSpec.ofChange Rows.markTextsSpec).at F).post enc Tryz.prog Tryz.f6 false true false false):=by
 obtain⟨places,hx⟩:=reads os enc;refine returnsInHanded_of_row (C:=Tryz.checked) (s:=OpenSpec.ofChange Rows.markTextsSpec) own started (by kernel_rfl) Tryz.func6
   (witness_row_atRef (enc:=enc) (C:=Tryz.checked) false (ke os) jB rfl (hv os) (hr os) (bJ os)
     (OpenSpec.preRow_of_cond 8 hx (by kernel_rfl) (fun k hk=>by cases hk) (by kernel_rfl) (EG os _))) ?_
 intro W base args ds gs before hval hW _ _ _ hL _ _;exact LD H enc W base args ds gs before hval hW hL
end Go.Proofs.YtcjphdmkgmkabaaGreatDoor.markTexts
