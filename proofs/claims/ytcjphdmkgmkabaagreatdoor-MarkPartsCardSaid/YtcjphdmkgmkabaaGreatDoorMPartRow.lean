/-
  Own work: MarkParts: for all texts and machine integers the law answers true: the row's contract and its start.
-/
import Derived.Test.YtcjphdmkgmkabaaGreatDoorLib6
import Derived.Test.YtcjphdmkgmkabaaGreatDoorLib2
import Derived.Deep.Strs
set_option maxHeartbeats 8000000
set_option maxRecDepth 20000
namespace Go.Proofs.YtcjphdmkgmkabaaGreatDoor.markParts
open Go.Ab Go.Ab.Ch1 Go.ChangeShapes Go.WideShapes Go.ChangeAt Go.RowKit
open Go.ChangeMaps (open_string)
theorem afi:Tryz.prog.underlying 75=some .string:=by kernel_rfl
theorem afj:Tryz.prog.underlying 23=some (.array 2 3):=by kernel_rfl
theorem afk:Tryz.prog.underlying 3=some (.int .i64):=by kernel_rfl
theorem afl:Tryz.prog.underlying 9=some .string:=by kernel_rfl
theorem afm:Tryz.prog.cellsOf 3=1:=by kernel_rfl
theorem afn:Tryz.prog.cellsOf 23=2:=by kernel_rfl
theorem law (s a:List UInt8){n d:Int}(hn : -9223372036854775808<=n/\n<9223372036854775808)(hd : -9223372036854775808<=d/\d<9223372036854775808):aT (aX Tryz.prog Go.Ab.Ch1.FT Fc) 15 [.str s,.str a,.agg [.int .i64 n,.int .i64 d]] [] ⟨.bool true,[],[]⟩:=w15 c15 s a hn hd
theorem afo {H:Type}{enc:TypeId×Value->H}{W:World}{P:Program}{t e:TypeId}{v:Value}{d:DataW H}{ps:List MemPlace}{base:Nat}{sp:Nat->Bool}(ht:P.underlying t=some (.array 2 e))(he:P.underlying e=some (.int .i64))(hc:P.cellsOf e=1)(hct:P.cellsOf t=2)(hval:Value.okWide P W .any base t v)(h:DataW.Trod enc P W 0 sp true t v d ps):∃a b:Int,v = .agg #[.int .i64 a,.int .i64 b]/\(-9223372036854775808<=a/\a<9223372036854775808)/\(-9223372036854775808<=b/\b<9223372036854775808):=by
 simp only[Value.okWide,ht]at hval;obtain⟨cs,rfl,hsz,_⟩:=hval;rw[hct]at hsz;obtain⟨fuel,hf⟩:=h;obtain⟨xs,m,rfl,_,_,hxl,hx⟩:=DataW.trod_array ht hf;obtain⟨l⟩:=cs;have key:∀z:Int,(Lit.int .i64 z).wf=true -> -9223372036854775808<=z/\z<9223372036854775808:=fun z hz=>by
  simp only[Lit.wf,Bool.and_eq_true,decide_eq_true_eq]at hz;have h1:IntKind.i64.min = -9223372036854775808:=rfl;have h2:IntKind.i64.max=9223372036854775807:=rfl;omega
 match l,hsz with
 | [c0,c1],_=>
  have g0:=hx 0 (by omega);have g1:=hx 1 (by omega);rw[hc]at g0 g1;rw[List.getElem?_eq_getElem (by omega)]at g0 g1;obtain⟨a,h0,_,w0⟩:=DataW.trod_int he g0;obtain⟨b,h1,_,w1⟩:=DataW.trod_int he g1;simp[Value.cells]at h0 h1;rw[h0,h1];exact⟨a,b,rfl,key a w0,key b w1⟩
set_option maxRecDepth 100000 in
theorem afp (H:Type)(enc:TypeId×Value->H)(W:World)(base:Nat)(args:Array Value)(ds gs:List (DataW H))(before:List MemPlace)
 (hval:∀(j:Nat) t v,Tryz.f15.params[j]? = some t->args[j]? = some v->Value.okWide Tryz.prog W .any base t v)
 (hW:DataW.Whole enc Tryz.prog Tryz.f15.params.toList Rows.markPartsSpec.vars false W args.toList ds gs before) (hL:laidMetH Tryz.prog Rows.markPartsRow.laid W) :
 Calls Tryz.prog 15 args W fun e W'=>∃v,e = .returned v/\Rows.markPartsSpec.post enc Tryz.prog Tryz.f15 false true false false W args v W':=by
 have hW':=hW;obtain⟨p,q,hA0,hV,rfl,hfz,hnd⟩:=hW;have hA:DataW.TrodAll enc Tryz.prog W 0 (fun _=>true) true Tryz.f15.params.toList args.toList ds p:=hA0;rw[Tryz.params15]at hA hval;obtain⟨v0,vs0,d0,ds0,p0,q0,hargs,rfl,rfl,h0,r0⟩:=trodAll_cons hA;obtain⟨v1,vs1,d1,ds1,p1,q1,rfl,rfl,rfl,h1,r1⟩:=trodAll_cons r0;obtain⟨v2,vs2,d2,ds2,p2,q2,rfl,rfl,rfl,h2,r2⟩:=trodAll_cons r1;obtain⟨rfl,rfl,rfl⟩:=trodAll_nil r2;obtain rfl:args = #[v0,v1,v2]:=by cases args;simp_all
 obtain⟨rfl,rfl⟩:=trodVars_none hV;obtain⟨b,rfl,rfl,rfl,m0⟩:=open_string afl (hval 0 9 v0 rfl rfl) h0;obtain⟨a,rfl,rfl,rfl,m1⟩:=open_string afi (hval 1 75 v1 rfl rfl) h1;obtain⟨x,y,rfl,hx,hy⟩:=afo afj afk afm afn (hval 2 23 v2 rfl rfl) h2;have hagg:V bare W (.agg [.int .i64 x,.int .i64 y]) (.agg #[.int .i64 x,.int .i64 y]):=.agg (m:=[.int .i64 x,.int .i64 y]) rfl fun i a b ha hb=>by
  match i,ha,hb with
  | 0,ha,hb=>cases ha;cases hb;exact .int _ _
  | 1,ha,hb=>cases ha;cases hb;exact .int _ _
 clear hA0;refine(Tf nU afg (law b.data.toList a.data.toList hx hy) (Tb (Tc (by kernel_rfl) hL)) (.cons (V.tJ b) (.cons (V.tJ a) (.cons hagg .nil)))).mono fun e W' ⟨he,hb⟩=>?_
 subst he;exact⟨_,rfl,Rt hW' laidOut (by rw[Tryz.params15];exact fun t ht=>by simp at ht;rcases ht with rfl|rfl|rfl <;> exact⟨by kernel_rfl,of_decide_eq_true (by kernel_rfl)⟩) rfl hb Ta (by kernel_rfl) rfl rfl rfl⟩
abbrev oO:Array Value:=#[.string ⟨#[]⟩,.string ⟨#[]⟩,.agg #[.int .i64 0,.int .i64 0]]
theorem reads (os:Os){H:Type}(enc:TypeId×Value->H):∃places,DataW.whole enc Tryz.prog ((pO os).forCall (fun _ _=>0) ⟨#[],oO,[]⟩).memory Tryz.f15.params.toList Rows.markPartsSpec.vars false oO.toList 8=some ([.lit (.string []),.lit (.string []),.agg [.lit (.int .i64 0),.lit (.int .i64 0)]],[],places):=
 ⟨[],by kernel_rfl⟩
theorem hv (os:Os):((pO os).forCall (fun _ _=>0) ⟨#[],oO,[]⟩).variablesRefB Tryz.checked.prog=true:=by kernel_rfl
theorem hr (os:Os):(((pO os).forCall (fun _ _=>0) ⟨#[],oO,[]⟩).heap.toList.drop Tryz.checked.prog.globals.size).take ((begin Tryz.checked.prog (fun _ _=>0) default).world.heap.size-Tryz.checked.prog.globals.size) =
      (begin Tryz.checked.prog (fun _ _=>0) default).world.heap.toList.drop Tryz.checked.prog.globals.size:=by kernel_rfl
theorem bC (os:Os):Input.okWideB Tryz.checked.prog ((pO os).forCall (fun _ _=>0) ⟨#[],oO,[]⟩) 15 ⟨#[],oO,[]⟩=true:=by kernel_rfl
set_option maxRecDepth 100000 in
theorem lifted (os:Os)(started:os.Started)(H:Type)(enc:TypeId×Value->H)(F:Stop.Interp) :
 ReturnsInHanded {} Tryz.checked os 15 .any ((OpenSpec.ofChange Rows.markPartsSpec).preRow enc Tryz.prog Tryz.f15 Rows.markPartsRow.domain false Rows.markPartsRow.laid) (((OpenSpec.ofChange Rows.markPartsSpec).at F).post enc Tryz.prog Tryz.f15 false true false false):=by
 obtain⟨places,hx⟩:=reads os enc;refine returnsInHanded_of_row (C:=Tryz.checked) (s:=OpenSpec.ofChange Rows.markPartsSpec) own started (by kernel_rfl) Tryz.func15
   (witness_row_atRef (enc:=enc) (C:=Tryz.checked) false (pO os) oO rfl (hv os) (hr os) (bC os)
     (OpenSpec.preRow_of_cond 8 hx (by kernel_rfl) (fun k hk=>by cases hk) (by kernel_rfl) (Te os _))) ?_
 intro W base args ds gs before hval hW _ _ _ hL _ _;exact afp H enc W base args ds gs before hval hW hL
end Go.Proofs.YtcjphdmkgmkabaaGreatDoor.markParts
