/-
  Own work: MarkRoots: for all numbers, totals and weights the law answers true: the row's contract and its start.
-/
import Derived.Test.YtcjphdmkgmkabaaGreatDoorLib12
import Derived.Test.YtcjphdmkgmkabaaGreatDoorLib4
set_option maxHeartbeats 8000000
set_option maxRecDepth 20000
namespace Go.Proofs.YtcjphdmkgmkabaaGreatDoor.markRoots
open Go.Ab Go.Ab.Ch1 Go.ChangeShapes Go.WideShapes Go.ChangeAt Go.RowKit
theorem aam:Tryz.prog.underlying 22=some (.slice 3):=by kernel_rfl
theorem aan:Tryz.prog.cellsOf 3=1:=by kernel_rfl
theorem law {n:Int}(hn : -9223372036854775808<=n/\n<9223372036854775808)(total:Int)(w:List Int)(cap:Option Nat):aU (aZ Tryz.prog Go.Ab.Ch1.FT Dn) 8 [.int .i64 n,.int .i64 total,.vs (ints w) w.length cap] [] ⟨.bool true,[],[]⟩:=
 w8 c8 hn total w
theorem aao {z:Int}(hz:(Lit.int .i64 z).wf=true) : -9223372036854775808<=z/\z<9223372036854775808:=by
 simp only[Lit.wf,Bool.and_eq_true,decide_eq_true_eq]at hz;have h1:IntKind.i64.min = -9223372036854775808:=rfl;have h2:IntKind.i64.max=9223372036854775807:=rfl;omega
set_option maxRecDepth 100000 in
theorem aap (H:Type)(enc:TypeId×Value->H)(W:World)(base:Nat)(args:Array Value)(ds gs:List (DataW H))(before:List MemPlace)
 (hval:∀(j:Nat) t v,Tryz.f8.params[j]? = some t->args[j]? = some v->Value.okWide Tryz.prog W .any base t v)
 (hW:DataW.Whole enc Tryz.prog Tryz.f8.params.toList Rows.markRootsSpec.vars false W args.toList ds gs before) (hL:laidMetH Tryz.prog Rows.markRootsRow.laid W) :
 Calls Tryz.prog 8 args W fun e W'=>∃v,e = .returned v/\Rows.markRootsSpec.post enc Tryz.prog Tryz.f8 false true false false W args v W':=by
 have hW':=hW;obtain⟨p,q,hA0,hV,rfl,hfz,hnd⟩:=hW;have hA:DataW.TrodAll enc Tryz.prog W 0 (fun _=>true) true Tryz.f8.params.toList args.toList ds p:=hA0;rw[Tryz.params8]at hA hval;obtain⟨v0,vs0,d0,ds0,p0,q0,hargs,rfl,rfl,h0,r0⟩:=trodAll_cons hA;obtain⟨v1,vs1,d1,ds1,p1,q1,rfl,rfl,rfl,h1,r1⟩:=trodAll_cons r0;obtain⟨v2,vs2,d2,ds2,p2,q2,rfl,rfl,rfl,h2,r2⟩:=trodAll_cons r1;obtain⟨rfl,rfl,rfl⟩:=trodAll_nil r2;obtain rfl:args = #[v0,v1,v2]:=by cases args;simp_all
 obtain⟨rfl,rfl⟩:=trodVars_none hV;obtain⟨n,rfl,rfl,rfl,w0⟩:=open_int zH (hval 0 3 v0 rfl rfl) h0;obtain⟨total,rfl,rfl,rfl,w1⟩:=open_int zH (hval 1 3 v1 rfl rfl) h1;obtain⟨w,hw⟩:=PL aam zH aan (hval 2 22 v2 rfl rfl) h2;clear hA0;refine(QT ju aal (law (aao w0) total w none) (QN (QO (by kernel_rfl) hL)) (.cons (.int _ _) (.cons (.int _ _) (.cons hw .nil)))).mono fun e W' ⟨he,hb⟩=>?_
 subst he;exact⟨_,rfl,Pg hW' laidOut (by rw[Tryz.params8];exact fun t ht=>by simp at ht;rcases ht with rfl|rfl|rfl <;> exact⟨by kernel_rfl,of_decide_eq_true (by kernel_rfl)⟩) rfl hb QM (by kernel_rfl) rfl rfl rfl⟩
abbrev mM:Array Value:=#[.int .i64 0,.int .i64 0,.slice none 0 0]
theorem reads (os:Os){H:Type}(enc:TypeId×Value->H):∃places,DataW.whole enc Tryz.prog ((nP os).forCall (fun _ _=>0) ⟨#[],mM,[]⟩).memory Tryz.f8.params.toList Rows.markRootsSpec.vars false mM.toList 8=some ([.lit (.int .i64 0),.lit (.int .i64 0),.nil],[],places):=
 ⟨[],by kernel_rfl⟩
theorem hv (os:Os):((nP os).forCall (fun _ _=>0) ⟨#[],mM,[]⟩).variablesRefB Tryz.checked.prog=true:=by kernel_rfl
theorem hr (os:Os):(((nP os).forCall (fun _ _=>0) ⟨#[],mM,[]⟩).heap.toList.drop Tryz.checked.prog.globals.size).take ((begin Tryz.checked.prog (fun _ _=>0) default).world.heap.size-Tryz.checked.prog.globals.size) =
      (begin Tryz.checked.prog (fun _ _=>0) default).world.heap.toList.drop Tryz.checked.prog.globals.size:=by kernel_rfl
theorem ba (os:Os):Input.okWideB Tryz.checked.prog ((nP os).forCall (fun _ _=>0) ⟨#[],mM,[]⟩) 8 ⟨#[],mM,[]⟩=true:=by kernel_rfl
set_option maxRecDepth 100000 in
theorem lifted (os:Os)(started:os.Started)(H:Type)(enc:TypeId×Value->H)(F:Stop.Interp) :
 ReturnsInHanded {} Tryz.checked os 8 .any ((OpenSpec.ofChange Rows.markRootsSpec).preRow enc Tryz.prog Tryz.f8 Rows.markRootsRow.domain false Rows.markRootsRow.laid) (((OpenSpec.ofChange Rows.markRootsSpec).at F).post enc Tryz.prog Tryz.f8 false true false false):=by
 obtain⟨places,hx⟩:=reads os enc;refine returnsInHanded_of_row (C:=Tryz.checked) (s:=OpenSpec.ofChange Rows.markRootsSpec) own started (by kernel_rfl) Tryz.func8
   (witness_row_atRef (enc:=enc) (C:=Tryz.checked) false (nP os) mM rfl (hv os) (hr os) (ba os)
     (OpenSpec.preRow_of_cond 8 hx (by kernel_rfl) (fun k hk=>by cases hk) (by kernel_rfl) (QQ os _))) ?_
 intro W base args ds gs before hval hW _ _ _ hL _ _;exact aap H enc W base args ds gs before hval hW hL
end Go.Proofs.YtcjphdmkgmkabaaGreatDoor.markRoots
