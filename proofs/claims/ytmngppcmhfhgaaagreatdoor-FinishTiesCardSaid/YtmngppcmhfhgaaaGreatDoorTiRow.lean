/-
  Own work: FinishTies: for all lists of spans the law answers true: the row's contract and its start.
-/
import Derived.Test.YtmngppcmhfhgaaaGreatDoorLib6
import Derived.Test.YtmngppcmhfhgaaaGreatDoorLib1
import Derived.Deep.Strs
set_option maxHeartbeats 8000000
set_option maxRecDepth 20000
namespace Go.Proofs.YtmngppcmhfhgaaaGreatDoor.finishTies
open Go.Ab Go.Ab.Ch5 Go.Ab.Ch5.N Go.ChangeShapes Go.WideShapes Go.ChangeAt Go.RowKit
open Go.ChangeMaps (open_string)
set_option maxRecDepth 100000
theorem law (t:List (List UInt8×List UInt8)):bg (bx Tryz.prog Go.Ab.Ch5.FT FD) 9 [.vs (arr fP t) t.length none] [] ⟨.bool true,[],[]⟩:=w9 c9 t
theorem adx:mh Tryz.prog 8 94=some [.slice [.str,.str]]:=by kernel_rfl
theorem ady:Tryz.prog.underlying 94=some (.slice 44):=by kernel_rfl
theorem adz (c:List AV)(h:eh [.str,.str] c):∃p:List UInt8×List UInt8,c=fP p:=by
 simp only[eh,Has]at h;obtain⟨_,_,rfl,⟨s,rfl,_⟩,_,_,rfl,⟨k,rfl,_⟩,rfl⟩:=h;exact⟨(s,k),rfl⟩
theorem adA (H:Type)(enc:TypeId×Value->H)(W:World)(base:Nat)(args:Array Value)(ds gs:List (DataW H))(before:List MemPlace)
 (hval:∀(j:Nat) t v,Tryz.f9.params[j]? = some t->args[j]? = some v->Value.okWide Tryz.prog W .any base t v)
 (hW:DataW.Whole enc Tryz.prog Tryz.f9.params.toList Rows.finishTiesSpec.vars false W args.toList ds gs before) (hL:laidMetH Tryz.prog Rows.finishTiesRow.laid W) :
 Calls Tryz.prog 9 args W fun e W'=>∃v,e = .returned v/\Rows.finishTiesSpec.post enc Tryz.prog Tryz.f9 false true false false W args v W':=by
 have hW':=hW;obtain⟨p,q,hA0,hV,rfl,hfz,hnd⟩:=hW;have hA:DataW.TrodAll enc Tryz.prog W 0 (fun _=>true) true Tryz.f9.params.toList args.toList ds p:=hA0;rw[Tryz.params9]at hA hval;obtain⟨v0,vs0,d0,ds0,p0,q0,hargs,rfl,rfl,h0,r0⟩:=trodAll_cons hA;obtain⟨rfl,rfl,rfl⟩:=trodAll_nil r0;obtain rfl:args = #[v0]:=by cases args;simp_all
 obtain⟨rfl,rfl⟩:=trodVars_none hV;obtain⟨x0,g0,hl0⟩:=QU adx (by obtain⟨_,_,_,rfl⟩:=okWide_slice ady (hval 0 94 v0 rfl rfl);rfl) h0 rfl;obtain⟨t,rfl,_⟩:=QV adz g0;clear hA0;refine(Go.Ab.HQ nH adw (law t) (SI (SJ (by kernel_rfl) hL)) (.cons hl0 .nil)).mono fun e W' ⟨he,hb⟩=>?_
 subst he;exact⟨_,rfl,Qs hW' laidOut (by rw[Tryz.params9];exact fun t ht=>by simp at ht;rcases ht with rfl <;> exact⟨by kernel_rfl,of_decide_eq_true (by kernel_rfl)⟩) rfl hb SH (by kernel_rfl) rfl rfl rfl⟩
theorem HP (os:Os)(args:Array Value):laidMet Tryz.prog Rows.finishTiesRow.laid ((nI os).forCall (fun _ _=>0) ⟨#[],args,[]⟩).memory:=
 laidMet_of_run' 8 (by kernel_rfl) (by kernel_rfl)
abbrev oG:Array Value:=#[.slice none 0 0]
theorem reads (os:Os){H:Type}(enc:TypeId×Value->H):∃places,DataW.whole enc Tryz.prog ((nI os).forCall (fun _ _=>0) ⟨#[],oG,[]⟩).memory Tryz.f9.params.toList Rows.finishTiesSpec.vars false oG.toList 8=some ([.nil],[],places):=
 ⟨[],by kernel_rfl⟩
theorem hv (os:Os):((nI os).forCall (fun _ _=>0) ⟨#[],oG,[]⟩).variablesRefB Tryz.checked.prog=true:=by kernel_rfl
theorem hr (os:Os):(((nI os).forCall (fun _ _=>0) ⟨#[],oG,[]⟩).heap.toList.drop Tryz.checked.prog.globals.size).take ((begin Tryz.checked.prog (fun _ _=>0) default).world.heap.size-Tryz.checked.prog.globals.size) =
      (begin Tryz.checked.prog (fun _ _=>0) default).world.heap.toList.drop Tryz.checked.prog.globals.size:=by kernel_rfl
theorem bT (os:Os):Input.okWideB Tryz.checked.prog ((nI os).forCall (fun _ _=>0) ⟨#[],oG,[]⟩) 9 ⟨#[],oG,[]⟩=true:=by kernel_rfl
theorem lifted (os:Os)(started:os.Started)(H:Type)(enc:TypeId×Value->H)(F:Stop.Interp) :
 ReturnsInHanded {} Tryz.checked os 9 .any ((OpenSpec.ofChange Rows.finishTiesSpec).preRow enc Tryz.prog Tryz.f9 Rows.finishTiesRow.domain false Rows.finishTiesRow.laid) (((OpenSpec.ofChange Rows.finishTiesSpec).at F).post enc Tryz.prog Tryz.f9 false true false false):=by
 obtain⟨places,hx⟩:=reads os enc;refine returnsInHanded_of_row (C:=Tryz.checked) (s:=OpenSpec.ofChange Rows.finishTiesSpec) own started (by kernel_rfl) Tryz.func9
   (witness_row_atRef (enc:=enc) (C:=Tryz.checked) false (nI os) oG rfl (hv os) (hr os) (bT os)
     (OpenSpec.preRow_of_cond 8 hx (by kernel_rfl) (fun k hk=>by cases hk) (by kernel_rfl) (HP os _))) ?_
 intro W base args ds gs before hval hW _ _ _ hL _ _;exact adA H enc W base args ds gs before hval hW hL
end Go.Proofs.YtmngppcmhfhgaaaGreatDoor.finishTies
