/-
  Own work: MarkField: for all three numbers the law answers true: the row's contract and its start.
-/
import Derived.Test.YtcjphdmkgmkabaaGreatDoorLib6
import Derived.Test.YtcjphdmkgmkabaaGreatDoorLib2
import Derived.Deep.Strs
set_option maxHeartbeats 8000000
namespace Go.Proofs.YtcjphdmkgmkabaaGreatDoor.markField
open Go.Ab Go.Ab.Ch1 Go.ChangeShapes Go.WideShapes Go.ChangeAt Go.RowKit
open Go.ChangeMaps (open_string)
theorem DR:Tryz.prog.underlying 75=some .string:=by kernel_rfl
theorem law (a b c:List UInt8):aZ (bw Tryz.prog Go.Ab.Ch1.FT DQ) 17 [.str a,.str b,.str c] [] ⟨.bool true,[],[]⟩:=w17 c17 a b c
set_option maxRecDepth 100000 in
theorem abA (H:Type)(enc:TypeId×Value->H)(W:World)(base:Nat)(args:Array Value)(ds gs:List (DataW H))(before:List MemPlace)
 (hval:∀(j:Nat) t v,Tryz.f17.params[j]? = some t->args[j]? = some v->Value.okWide Tryz.prog W .any base t v)
 (hW:DataW.Whole enc Tryz.prog Tryz.f17.params.toList Rows.markFieldSpec.vars false W args.toList ds gs before) (hL:laidMetH Tryz.prog Rows.markFieldRow.laid W) :
 Calls Tryz.prog 17 args W fun e W'=>∃v,e = .returned v/\Rows.markFieldSpec.post enc Tryz.prog Tryz.f17 false true false false W args v W':=by
 have hW':=hW
 obtain⟨p,q,hA0,hV,rfl,hfz,hnd⟩:=hW
 have hA:DataW.TrodAll enc Tryz.prog W 0 (fun _=>true) true Tryz.f17.params.toList args.toList ds p:=hA0
 rw[Tryz.params17]at hA hval
 obtain⟨v0,vs0,d0,ds0,p0,q0,hargs,rfl,rfl,h0,r0⟩:=trodAll_cons hA
 obtain⟨v1,vs1,d1,ds1,p1,q1,rfl,rfl,rfl,h1,r1⟩:=trodAll_cons r0
 obtain⟨v2,vs2,d2,ds2,p2,q2,rfl,rfl,rfl,h2,r2⟩:=trodAll_cons r1
 obtain⟨rfl,rfl,rfl⟩:=trodAll_nil r2
 obtain rfl:args = #[v0,v1,v2]:=by cases args;simp_all
 obtain⟨rfl,rfl⟩:=trodVars_none hV
 obtain⟨a,rfl,rfl,rfl,m0⟩:=open_string DR (hval 0 75 v0 rfl rfl) h0
 obtain⟨b,rfl,rfl,rfl,m1⟩:=open_string DR (hval 1 75 v1 rfl rfl) h1
 obtain⟨c,rfl,rfl,rfl,m2⟩:=open_string DR (hval 2 75 v2 rfl rfl) h2
 clear hA0
 refine(Qm po abx (law a.data.toList b.data.toList c.data.toList) (Qi (Qj (by kernel_rfl) hL)) (.cons (V.qO a) (.cons (V.qO b) (.cons (V.qO c) .nil)))).mono fun e W' ⟨he,hb⟩=>?_
 subst he
 exact⟨_,rfl,Ox hW' laidOut (by rw[Tryz.params17];exact fun t ht=>by simp at ht;subst ht;exact⟨by kernel_rfl,of_decide_eq_true (by kernel_rfl)⟩) rfl hb Qh (by kernel_rfl) rfl rfl rfl⟩
abbrev nZ:Array Value:=#[.string ⟨#[]⟩,.string ⟨#[]⟩,.string ⟨#[]⟩]
theorem reads (os:Os){H:Type}(enc:TypeId×Value->H):∃places,DataW.whole enc Tryz.prog ((pq os).forCall (fun _ _=>0) ⟨#[],nZ,[]⟩).memory Tryz.f17.params.toList Rows.markFieldSpec.vars false nZ.toList 8=some ([.lit (.string []),.lit (.string []),.lit (.string [])],[],places):=
 ⟨[],by kernel_rfl⟩
theorem hv (os:Os):((pq os).forCall (fun _ _=>0) ⟨#[],nZ,[]⟩).variablesRefB Tryz.checked.prog=true:=by kernel_rfl
theorem hr (os:Os):(((pq os).forCall (fun _ _=>0) ⟨#[],nZ,[]⟩).heap.toList.drop Tryz.checked.prog.globals.size).take ((begin Tryz.checked.prog (fun _ _=>0) default).world.heap.size-Tryz.checked.prog.globals.size) =
      (begin Tryz.checked.prog (fun _ _=>0) default).world.heap.toList.drop Tryz.checked.prog.globals.size:=by kernel_rfl
theorem bE (os:Os):Input.okWideB Tryz.checked.prog ((pq os).forCall (fun _ _=>0) ⟨#[],nZ,[]⟩) 17 ⟨#[],nZ,[]⟩=true:=by kernel_rfl
set_option maxRecDepth 100000 in
theorem lifted (os:Os)(started:os.Started)(H:Type)(enc:TypeId×Value->H)(F:Stop.Interp) :
 ReturnsInHanded {} Tryz.checked os 17 .any ((OpenSpec.ofChange Rows.markFieldSpec).preRow enc Tryz.prog Tryz.f17 Rows.markFieldRow.domain false Rows.markFieldRow.laid) (((OpenSpec.ofChange Rows.markFieldSpec).at F).post enc Tryz.prog Tryz.f17 false true false false):=by
 obtain⟨places,hx⟩:=reads os enc
 refine returnsInHanded_of_row (C:=Tryz.checked) (s:=OpenSpec.ofChange Rows.markFieldSpec) own started (by kernel_rfl) Tryz.func17
   (witness_row_atRef (enc:=enc) (C:=Tryz.checked) false (pq os) nZ rfl (hv os) (hr os) (bE os)
     (OpenSpec.preRow_of_cond 8 hx (by kernel_rfl) (fun k hk=>by cases hk) (by kernel_rfl) (Ql os _))) ?_
 intro W base args ds gs before hval hW _ _ _ hL _ _
 exact abA H enc W base args ds gs before hval hW hL
end Go.Proofs.YtcjphdmkgmkabaaGreatDoor.markField
