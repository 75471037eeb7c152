/-
  Own work: FieldStands: for all competitions over heights and cards the law answers true: the row's contract and its start.
-/
import Derived.Test.YtciaaphffkhjeaaGreatDoorLib5
import Derived.Test.YtciaaphffkhjeaaGreatDoorLib2
namespace Go.Proofs.YtciaaphffkhjeaaGreatDoor.fieldStands
open Go.Ab Go.Ab.Ch6 Go.ChangeShapes Go.WideShapes Go.ChangeAt Go.RowKit
theorem law (names:List Str) (hs:List Int) (step:Int) (l:List Ch6.Card):Run (mach Tryz.prog Go.Ab.Ch6.FT S7) 8 [vC names hs step,lC l] [] ⟨.bool true,[],[]⟩:=w8 calls8 names hs step l
abbrev ctCard:List CellT:=[.str,.slice [.str],.slice [.str],.bool]
abbrev ctVert:List CellT:=[.slice [.str],.slice [.int .i64],.int .i64]
theorem ctsL:cts Tryz.prog 8 96=some [.slice ctCard]:=by kernel_rfl
theorem cts27:cts Tryz.prog 8 27=some ctVert:=by kernel_rfl
theorem undL:Tryz.prog.underlying 96=some (.slice 167):=by kernel_rfl
theorem row27:isRow Tryz.prog 27=true:=by kernel_rfl
theorem has_int (c:List AV) (h:HasL [.int .i64] c):∃ n:Int,c=inC n:=by
 simp only [HasL,Has] at h
 obtain ⟨_,_,rfl,⟨n,rfl,_⟩,rfl⟩:=h
 exact ⟨n,rfl⟩
theorem has_str (c:List AV) (h:HasL [.str] c):∃ s:Str,c=stC s:=by
 simp only [HasL,Has] at h
 obtain ⟨_,_,rfl,⟨s,rfl,_⟩,rfl⟩:=h
 exact ⟨s,rfl⟩
theorem has_card (c:List AV) (h:HasL ctCard c):∃ r:Ch6.Card,c=cardC r:=by
 simp only [HasL] at h
 obtain ⟨x,_,rfl,hx,y,_,rfl,hy,z,_,rfl,hz,u,_,rfl,hu,rfl⟩:=h
 obtain ⟨l,rfl,_⟩:=has_slice (f:=stC) has_str hy
 obtain ⟨l',rfl,_⟩:=has_slice (f:=stC) has_str hz
 simp only [Has] at hx hu
 obtain ⟨s,rfl,_⟩:=hx
 obtain ⟨b,rfl⟩:=hu
 exact ⟨⟨s,l,l',b⟩,rfl⟩
theorem has_vert (c:List AV) (h:HasL ctVert c):∃ (names:List Str) (hs:List Int) (step:Int),c=vertC names hs step none none:=by
 simp only [HasL] at h
 obtain ⟨x,_,rfl,hx,y,_,rfl,hy,z,_,rfl,hz,rfl⟩:=h
 obtain ⟨l,rfl,_⟩:=has_slice (f:=stC) has_str hx
 obtain ⟨l',rfl,_⟩:=has_slice (f:=inC) has_int hy
 simp only [Has] at hz
 obtain ⟨t,rfl,_⟩:=hz
 exact ⟨l,l',t,rfl⟩
set_option maxRecDepth 100000 in
theorem contract (H:Type) (enc:TypeId×Value→H) (W:World) (base:Nat) (args:Array Value) (ds gs:List (DataW H)) (before:List MemPlace)
 (hval:∀ (j:Nat) t v,Tryz.f8.params[j]? = some t→args[j]? = some v→Value.okWide Tryz.prog W .any base t v)
 (hW:DataW.Whole enc Tryz.prog Tryz.f8.params.toList Rows.fieldStandsSpec.vars false W args.toList ds gs before) (hL:laidMetH Tryz.prog Rows.fieldStandsRow.laid W) :
 Calls Tryz.prog 8 args W fun e W'=>∃ v,e = .returned v∧Rows.fieldStandsSpec.post enc Tryz.prog Tryz.f8 false true false false W args v W':=by
 have hW':=hW
 obtain ⟨p,q,hA0,hV,rfl,hfz,hnd⟩:=hW
 have hA:DataW.TrodAll enc Tryz.prog W 0 (fun _=>true) true Tryz.f8.params.toList args.toList ds p:=hA0
 rw [Tryz.params8] at hA hval
 obtain ⟨v0,vs0,d0,ds0,p0,q0,hargs,rfl,rfl,h0,r0⟩:=trodAll_cons hA
 obtain ⟨v1,vs1,d1,ds1,p1,q1,rfl,rfl,rfl,h1,r1⟩:=trodAll_cons r0
 obtain ⟨rfl,rfl,rfl⟩:=trodAll_nil r1
 obtain rfl:args = #[v0,v1]:=by cases args;simp_all
 obtain ⟨rfl,rfl⟩:=trodVars_none hV
 obtain ⟨cs,hcs⟩:=row_form row27 (hval 0 27 v0 rfl rfl)
 obtain ⟨x0,g0,ha⟩:=arg_row cts27 hcs h0
 obtain ⟨names,hs,step,rfl⟩:=has_vert _ g0
 obtain ⟨x1,g1,hl⟩:=arg_cell ctsL (by obtain ⟨_,_,_,rfl⟩:=okWide_slice undL (hval 1 96 v1 rfl rfl);rfl) h1 rfl
 obtain ⟨l,rfl,_⟩:=has_slice has_card g1
 clear hA0
 refine (calls_true seat S7_ok (law names hs step l) (gl_of_tab (tab_of_laid (by kernel_rfl) hL)) (.cons ha (.cons hl .nil))).mono fun e W' ⟨he,hb⟩=>?_
 subst he
 exact ⟨_,rfl,law_post hW' laidOut (by rw [Tryz.params8];exact fun t ht=>by simp at ht;rcases ht with rfl|rfl <;> exact ⟨by kernel_rfl,of_decide_eq_true (by kernel_rfl)⟩) rfl hb und4 (by kernel_rfl) rfl rfl rfl⟩
theorem laid_met (os:Os) (args:Array Value):laidMet Tryz.prog Rows.fieldStandsRow.laid ((laidWorld os).forCall (fun _ _=>0) ⟨#[],args,[]⟩).memory:=
 laidMet_of_run' 8 (by kernel_rfl) (by kernel_rfl)
abbrev wArgs:Array Value:=#[.agg #[.slice none 0 0,.slice none 0 0,.int .i64 0],.slice none 0 0]
theorem reads (os:Os) {H:Type} (enc:TypeId×Value→H):∃ places,DataW.whole enc Tryz.prog ((laidWorld os).forCall (fun _ _=>0) ⟨#[],wArgs,[]⟩).memory Tryz.f8.params.toList Rows.fieldStandsSpec.vars false wArgs.toList 8=some ([.agg [.nil,.nil,.lit (.int .i64 0)],.nil],[],places):=
 ⟨[],by kernel_rfl⟩
theorem hv (os:Os):((laidWorld os).forCall (fun _ _=>0) ⟨#[],wArgs,[]⟩).variablesRefB Tryz.checked.prog=true:=by kernel_rfl
theorem hr (os:Os):(((laidWorld os).forCall (fun _ _=>0) ⟨#[],wArgs,[]⟩).heap.toList.drop Tryz.checked.prog.globals.size).take ((begin Tryz.checked.prog (fun _ _=>0) default).world.heap.size-Tryz.checked.prog.globals.size) =
      (begin Tryz.checked.prog (fun _ _=>0) default).world.heap.toList.drop Tryz.checked.prog.globals.size:=by kernel_rfl
theorem hok (os:Os):Input.okWideB Tryz.checked.prog ((laidWorld os).forCall (fun _ _=>0) ⟨#[],wArgs,[]⟩) 8 ⟨#[],wArgs,[]⟩=true:=by kernel_rfl
set_option maxRecDepth 100000 in
theorem lifted (os:Os) (started:os.Started) (H:Type) (enc:TypeId×Value→H) (F:Stop.Interp) :
 ReturnsInHanded {} Tryz.checked os 8 .any ((OpenSpec.ofChange Rows.fieldStandsSpec).preRow enc Tryz.prog Tryz.f8 Rows.fieldStandsRow.domain false Rows.fieldStandsRow.laid) (((OpenSpec.ofChange Rows.fieldStandsSpec).at F).post enc Tryz.prog Tryz.f8 false true false false):=by
 obtain ⟨places,hx⟩:=reads os enc
 refine returnsInHanded_of_row (C:=Tryz.checked) (s:=OpenSpec.ofChange Rows.fieldStandsSpec) own started (by kernel_rfl) Tryz.func8
   (witness_row_atRef (enc:=enc) (C:=Tryz.checked) false (laidWorld os) wArgs rfl (hv os) (hr os) (hok os)
     (OpenSpec.preRow_of_cond 8 hx (by kernel_rfl) (fun k hk=>by cases hk) (by kernel_rfl) (laid_met os _))) ?_
 intro W base args ds gs before hval hW _ _ _ hL _ _
 exact contract H enc W base args ds gs before hval hW hL
end Go.Proofs.YtciaaphffkhjeaaGreatDoor.fieldStands
