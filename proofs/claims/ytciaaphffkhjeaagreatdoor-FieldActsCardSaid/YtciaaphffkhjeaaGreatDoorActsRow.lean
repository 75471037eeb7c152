/-
  Own work: FieldActs: for all acts the law answers true: the row's contract and its start.
-/
import Derived.Test.YtciaaphffkhjeaaGreatDoorLib4
import Derived.Test.YtciaaphffkhjeaaGreatDoorLib2
namespace Go.Proofs.YtciaaphffkhjeaaGreatDoor.fieldActs
open Go.Ab Go.Ab.Ch6 Go.ChangeShapes Go.WideShapes Go.ChangeAt Go.RowKit

theorem law (l : List Ch6.Act) (n : Int) (a : Ch6.Act) : Run (mach Tryz.prog Go.Ab.Ch6.FT TActs) 4 [.vs (acts l) l.length none, .int .i64 n, .agg (actC a)] [] ⟨.bool true, [], []⟩ := w4 callsActs l n a

theorem cts38 : cts Tryz.prog 8 38 = some [.slice [.str, .str, .int .i64]] := by kernel_rfl
theorem cts40 : cts Tryz.prog 8 40 = some [.str, .str, .int .i64] := by kernel_rfl
theorem und38 : Tryz.prog.underlying 38 = some (.slice 40) := by kernel_rfl
theorem has_act (c : List AV) (h : HasL [.str, .str, .int .i64] c) : ∃ a : Ch6.Act, c = actC a := by
  simp only [HasL, Has] at h
  obtain ⟨_, _, rfl, ⟨s, rfl, _⟩, _, _, rfl, ⟨k, rfl, _⟩, _, _, rfl, ⟨n, rfl, _⟩, rfl⟩ := h
  exact ⟨⟨s, k, n⟩, rfl⟩
theorem row40 : isRow Tryz.prog 40 = true := by kernel_rfl

set_option maxRecDepth 100000 in
theorem contract (H : Type) (enc : TypeId × Value → H) (W : World) (base : Nat) (args : Array Value) (ds gs : List (DataW H)) (before : List MemPlace)
    (hval : ∀ (j : Nat) t v, Tryz.f4.params[j]? = some t → args[j]? = some v → Value.okWide Tryz.prog W .any base t v)
    (hW : DataW.Whole enc Tryz.prog Tryz.f4.params.toList Rows.fieldActsSpec.vars false W args.toList ds gs before) (hL : laidMetH Tryz.prog Rows.fieldActsRow.laid W) :
    Calls Tryz.prog 4 args W fun e W' => ∃ v, e = .returned v ∧ Rows.fieldActsSpec.post enc Tryz.prog Tryz.f4 false true false false W args v W' := by
  have hW' := hW
  obtain ⟨p, q, hA0, hV, rfl, hfz, hnd⟩ := hW
  have hA : DataW.TrodAll enc Tryz.prog W 0 (fun _ => true) true Tryz.f4.params.toList args.toList ds p := hA0
  rw [Tryz.params4] at hA hval
  obtain ⟨v0, vs0, d0, ds0, p0, q0, hargs, rfl, rfl, h0, r0⟩ := trodAll_cons hA
  obtain ⟨v1, vs1, d1, ds1, p1, q1, rfl, rfl, rfl, h1, r1⟩ := trodAll_cons r0
  obtain ⟨v2, vs2, d2, ds2, p2, q2, rfl, rfl, rfl, h2, r2⟩ := trodAll_cons r1
  obtain ⟨rfl, rfl, rfl⟩ := trodAll_nil r2
  obtain rfl : args = #[v0, v1, v2] := by cases args; simp_all
  obtain ⟨rfl, rfl⟩ := trodVars_none hV
  obtain ⟨x0, g0, hl⟩ := arg_cell cts38 (by obtain ⟨_, _, _, rfl⟩ := okWide_slice und38 (hval 0 38 v0 rfl rfl); rfl) h0 rfl
  obtain ⟨l, rfl, _⟩ := has_slice has_act g0
  obtain ⟨n, rfl⟩ := okWide_int und3 (hval 1 3 v1 rfl rfl)
  obtain ⟨cs, hcs⟩ := row_form row40 (hval 2 40 v2 rfl rfl)
  obtain ⟨x2, g2, ha⟩ := arg_row cts40 hcs h2
  obtain ⟨a, rfl⟩ := has_act _ g2
  clear hA0
  refine (calls_true seat TActs_ok (law l n a) (gl_of_tab (tab_of_laid (by kernel_rfl) hL)) (.cons hl (.cons (.int _ n) (.cons ha .nil)))).mono fun e W' ⟨he, hb⟩ => ?_
  subst he
  exact ⟨_, rfl, law_post hW' laidOut (by rw [Tryz.params4]; exact fun t ht => by simp at ht; rcases ht with rfl | rfl | rfl <;> exact ⟨by kernel_rfl, of_decide_eq_true (by kernel_rfl)⟩) rfl hb und4 (by kernel_rfl) rfl rfl rfl⟩

theorem laid_met (os : Os) (args : Array Value) : laidMet Tryz.prog Rows.fieldActsRow.laid ((laidWorld os).forCall (fun _ _ => 0) ⟨#[], args, []⟩).memory :=
  laidMet_of_run' 8 (by kernel_rfl) (by kernel_rfl)
abbrev wArgs : Array Value := #[.slice none 0 0, .int .i64 0, .agg #[.string ⟨#[]⟩, .string ⟨#[]⟩, .int .i64 0]]
theorem reads (os : Os) {H : Type} (enc : TypeId × Value → H) : ∃ places, DataW.whole enc Tryz.prog ((laidWorld os).forCall (fun _ _ => 0) ⟨#[], wArgs, []⟩).memory Tryz.f4.params.toList Rows.fieldActsSpec.vars false wArgs.toList 8 = some ([.nil, .lit (.int .i64 0), .agg [.lit (.string []), .lit (.string []), .lit (.int .i64 0)]], [], places) :=
  ⟨[], by kernel_rfl⟩
theorem hv (os : Os) : ((laidWorld os).forCall (fun _ _ => 0) ⟨#[], wArgs, []⟩).variablesRefB Tryz.checked.prog = true := by kernel_rfl
theorem hr (os : Os) : (((laidWorld os).forCall (fun _ _ => 0) ⟨#[], wArgs, []⟩).heap.toList.drop Tryz.checked.prog.globals.size).take ((begin Tryz.checked.prog (fun _ _ => 0) default).world.heap.size - Tryz.checked.prog.globals.size) =
      (begin Tryz.checked.prog (fun _ _ => 0) default).world.heap.toList.drop Tryz.checked.prog.globals.size := by kernel_rfl
theorem hok (os : Os) : Input.okWideB Tryz.checked.prog ((laidWorld os).forCall (fun _ _ => 0) ⟨#[], wArgs, []⟩) 4 ⟨#[], wArgs, []⟩ = true := by kernel_rfl

set_option maxRecDepth 100000 in
theorem lifted (os : Os) (started : os.Started) (H : Type) (enc : TypeId × Value → H) (F : Stop.Interp) :
    ReturnsInHanded {} Tryz.checked os 4 .any ((OpenSpec.ofChange Rows.fieldActsSpec).preRow enc Tryz.prog Tryz.f4 Rows.fieldActsRow.domain false Rows.fieldActsRow.laid) (((OpenSpec.ofChange Rows.fieldActsSpec).at F).post enc Tryz.prog Tryz.f4 false true false false) := by
  obtain ⟨places, hx⟩ := reads os enc
  refine returnsInHanded_of_row (C := Tryz.checked) (s := OpenSpec.ofChange Rows.fieldActsSpec) own started (by kernel_rfl) Tryz.func4
    (witness_row_atRef (enc := enc) (C := Tryz.checked) false (laidWorld os) wArgs rfl (hv os) (hr os) (hok os)
      (OpenSpec.preRow_of_cond 8 hx (by kernel_rfl) (fun k hk => by cases hk) (by kernel_rfl) (laid_met os _))) ?_
  intro W base args ds gs before hval hW _ _ _ hL _ _
  exact contract H enc W base args ds gs before hval hW hL
end Go.Proofs.YtciaaphffkhjeaaGreatDoor.fieldActs

