/-
  Own work: TopStrideStarts: for all samples, steps and numbers the law answers true: the row's contract and its start.
-/
import Derived.Test.YtbijenfdandjmaaGreatDoorLib5
import Derived.Test.YtbijenfdandjmaaGreatDoorT5Row
import Derived.Test.YtbijenfdandjmaaGreatDoorLib2
namespace Go.Proofs.YtbijenfdandjmaaGreatDoor.topStrideStarts
open Go.Ab Go.Ab.T5 Go.ChangeShapes Go.WideShapes Go.ChangeAt Go.RowKit

theorem law (l : List Int) (s t : Int) (hs : 0 ≤ s ∧ s < 256) (ht : 0 ≤ t ∧ t < 256) : Run (mach Tryz.prog Go.Ab.T5.FT TLaw) 3 [.vs (ints l) l.length none, .int .u8 s, .int .u8 t] [] ⟨.bool true, [], []⟩ :=
  w3 calls3 l s t hs ht

set_option maxRecDepth 100000 in
theorem contract (H : Type) (enc : TypeId × Value → H) (W : World) (base : Nat) (args : Array Value) (ds gs : List (DataW H)) (before : List MemPlace)
    (hval : ∀ (j : Nat) t v, Tryz.f3.params[j]? = some t → args[j]? = some v → Value.okWide Tryz.prog W .any base t v)
    (hW : DataW.Whole enc Tryz.prog Tryz.f3.params.toList Rows.topStrideStartsSpec.vars false W args.toList ds gs before) (hL : laidMetH Tryz.prog Rows.topStrideStartsRow.laid W) :
    Calls Tryz.prog 3 args W fun e W' => ∃ v, e = .returned v ∧ Rows.topStrideStartsSpec.post enc Tryz.prog Tryz.f3 false true false false W args v W' := by
  have hW' := hW
  obtain ⟨p, q, hA0, hV, rfl, hfz, hnd⟩ := hW
  have hA : DataW.TrodAll enc Tryz.prog W 0 (fun _ => true) true Tryz.f3.params.toList args.toList ds p := hA0
  rw [Tryz.params3] at hA hval
  obtain ⟨v0, vs0, d0, ds0, p0, q0, hargs, rfl, rfl, h0, r0⟩ := trodAll_cons hA
  obtain ⟨v1, vs1, d1, ds1, p1, q1, rfl, rfl, rfl, h1, r1⟩ := trodAll_cons r0
  obtain ⟨v2, vs2, d2, ds2, p2, q2, rfl, rfl, rfl, h2, r2⟩ := trodAll_cons r1
  obtain ⟨rfl, rfl, rfl⟩ := trodAll_nil r2
  obtain rfl : args = #[v0, v1, v2] := by cases args; simp_all
  obtain ⟨rfl, rfl⟩ := trodVars_none hV
  obtain ⟨l, hl⟩ := v_ints und22 und3 cells3 (hval 0 22 v0 rfl rfl) h0
  obtain ⟨s, rfl, hs⟩ := okWide_u8 und5 (hval 1 5 v1 rfl rfl)
  obtain ⟨t, rfl, ht⟩ := okWide_u8 und5 (hval 2 5 v2 rfl rfl)
  clear hA0
  refine (calls_true seat TLaw_ok (law l s t hs ht) (gl_of_tab (tab_of_laid (by kernel_rfl) hL)) (.cons hl (.cons (.int _ _) (.cons (.int _ _) .nil)))).mono fun e W' ⟨he, hb⟩ => ?_
  subst he
  exact ⟨_, rfl, law_post hW' laidOut (by rw [Tryz.params3]; exact fun t ht => by simp at ht; rcases ht with rfl | rfl | rfl <;> exact ⟨by kernel_rfl, of_decide_eq_true (by kernel_rfl)⟩) rfl hb und4 (by kernel_rfl) rfl rfl rfl⟩

abbrev wArgs : Array Value := #[.slice none 0 0, .int .u8 0, .int .u8 0]
theorem reads (os : Os) {H : Type} (enc : TypeId × Value → H) : ∃ places, DataW.whole enc Tryz.prog ((laidWorld os).forCall (fun _ _ => 0) ⟨#[], wArgs, []⟩).memory Tryz.f3.params.toList Rows.topStrideStartsSpec.vars false wArgs.toList 8 = some ([.nil, .lit (.int .u8 0), .lit (.int .u8 0)], [], places) :=
  ⟨[], by kernel_rfl⟩
theorem hv (os : Os) : ((laidWorld os).forCall (fun _ _ => 0) ⟨#[], wArgs, []⟩).variablesRefB Tryz.checked.prog = true := by kernel_rfl
theorem hr (os : Os) : (((laidWorld os).forCall (fun _ _ => 0) ⟨#[], wArgs, []⟩).heap.toList.drop Tryz.checked.prog.globals.size).take ((begin Tryz.checked.prog (fun _ _ => 0) default).world.heap.size - Tryz.checked.prog.globals.size) =
      (begin Tryz.checked.prog (fun _ _ => 0) default).world.heap.toList.drop Tryz.checked.prog.globals.size := by kernel_rfl
theorem hok (os : Os) : Input.okWideB Tryz.checked.prog ((laidWorld os).forCall (fun _ _ => 0) ⟨#[], wArgs, []⟩) 3 ⟨#[], wArgs, []⟩ = true := by kernel_rfl

set_option maxRecDepth 100000 in
theorem lifted (os : Os) (started : os.Started) (H : Type) (enc : TypeId × Value → H) (F : Stop.Interp) :
    ReturnsInHanded {} Tryz.checked os 3 .any ((OpenSpec.ofChange Rows.topStrideStartsSpec).preRow enc Tryz.prog Tryz.f3 Rows.topStrideStartsRow.domain false Rows.topStrideStartsRow.laid) (((OpenSpec.ofChange Rows.topStrideStartsSpec).at F).post enc Tryz.prog Tryz.f3 false true false false) := by
  obtain ⟨places, hx⟩ := reads os enc
  refine returnsInHanded_of_row (C := Tryz.checked) (s := OpenSpec.ofChange Rows.topStrideStartsSpec) own started (by kernel_rfl) Tryz.func3
    (witness_row_atRef (enc := enc) (C := Tryz.checked) false (laidWorld os) wArgs rfl (hv os) (hr os) (hok os)
      (OpenSpec.preRow_of_cond 8 hx (by kernel_rfl) (fun k hk => by cases hk) (by kernel_rfl) (laid_met os _))) ?_
  intro W base args ds gs before hval hW _ _ _ hL _ _
  exact contract H enc W base args ds gs before hval hW hL
end Go.Proofs.YtbijenfdandjmaaGreatDoor.topStrideStarts

