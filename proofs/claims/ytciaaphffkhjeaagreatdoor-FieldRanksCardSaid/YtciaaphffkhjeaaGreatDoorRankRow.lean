/-
  Own work: FieldRanks: for all rows the law answers true: the row's contract and its start.
-/
import Derived.Test.YtciaaphffkhjeaaGreatDoorLib5
import Derived.Test.YtciaaphffkhjeaaGreatDoorLib2
namespace Go.Proofs.YtciaaphffkhjeaaGreatDoor.fieldRanks
open Go.Ab Go.Ab.Ch6 Go.ChangeShapes Go.WideShapes Go.ChangeAt Go.RowKit
theorem law (l : List Ch6.Row) : Run (mach Tryz.prog Go.Ab.Ch6.FT R4) 5 [.vs (rowsC l) l.length none] [] ⟨.bool true, [], []⟩ := w5 calls5 l
abbrev ctRow : List CellT := [.str, .slice [.int .i64], .bool]
theorem cts53 : cts Tryz.prog 8 53 = some [.slice ctRow] := by kernel_rfl
theorem und53 : Tryz.prog.underlying 53 = some (.slice 145) := by kernel_rfl
theorem has_int (c : List AV) (h : HasL [.int .i64] c) : ∃ n : Int, c = inC n := by
  simp only [HasL, Has] at h
  obtain ⟨_, _, rfl, ⟨n, rfl, _⟩, rfl⟩ := h
  exact ⟨n, rfl⟩
theorem has_row (c : List AV) (h : HasL ctRow c) : ∃ r : Ch6.Row, c = rowC r := by
  simp only [HasL] at h
  obtain ⟨x, _, rfl, hx, y, _, rfl, hy, z, _, rfl, hz, rfl⟩ := h
  obtain ⟨l, rfl, _⟩ := has_slice (f := inC) has_int hy
  simp only [Has] at hx hz
  obtain ⟨s, rfl, _⟩ := hx
  obtain ⟨b, rfl⟩ := hz
  exact ⟨⟨s, l, b⟩, rfl⟩
set_option maxRecDepth 100000 in
theorem contract (H : Type) (enc : TypeId × Value → H) (W : World) (base : Nat) (args : Array Value) (ds gs : List (DataW H)) (before : List MemPlace)
    (hval : ∀ (j : Nat) t v, Tryz.f5.params[j]? = some t → args[j]? = some v → Value.okWide Tryz.prog W .any base t v)
    (hW : DataW.Whole enc Tryz.prog Tryz.f5.params.toList Rows.fieldRanksSpec.vars false W args.toList ds gs before) (hL : laidMetH Tryz.prog Rows.fieldRanksRow.laid W) :
    Calls Tryz.prog 5 args W fun e W' => ∃ v, e = .returned v ∧ Rows.fieldRanksSpec.post enc Tryz.prog Tryz.f5 false true false false W args v W' := by
  have hW' := hW
  obtain ⟨p, q, hA0, hV, rfl, hfz, hnd⟩ := hW
  have hA : DataW.TrodAll enc Tryz.prog W 0 (fun _ => true) true Tryz.f5.params.toList args.toList ds p := hA0
  rw [Tryz.params5] at hA hval
  obtain ⟨v0, vs0, d0, ds0, p0, q0, hargs, rfl, rfl, h0, r0⟩ := trodAll_cons hA
  obtain ⟨rfl, rfl, rfl⟩ := trodAll_nil r0
  obtain rfl : args = #[v0] := by cases args; simp_all
  obtain ⟨rfl, rfl⟩ := trodVars_none hV
  obtain ⟨x0, g0, hl⟩ := arg_cell cts53 (by obtain ⟨_, _, _, rfl⟩ := okWide_slice und53 (hval 0 53 v0 rfl rfl); rfl) h0 rfl
  obtain ⟨l, rfl, _⟩ := has_slice has_row g0
  clear hA0
  refine (calls_true seat R4_ok (law l) (gl_of_tab (tab_of_laid (by kernel_rfl) hL)) (.cons hl .nil)).mono fun e W' ⟨he, hb⟩ => ?_
  subst he
  exact ⟨_, rfl, law_post hW' laidOut (by rw [Tryz.params5]; exact fun t ht => by simp at ht; subst ht; exact ⟨by kernel_rfl, of_decide_eq_true (by kernel_rfl)⟩) rfl hb und4 (by kernel_rfl) rfl rfl rfl⟩
theorem laid_met (os : Os) (args : Array Value) : laidMet Tryz.prog Rows.fieldRanksRow.laid ((laidWorld os).forCall (fun _ _ => 0) ⟨#[], args, []⟩).memory :=
  laidMet_of_run' 8 (by kernel_rfl) (by kernel_rfl)
abbrev wArgs : Array Value := #[.slice none 0 0]
theorem reads (os : Os) {H : Type} (enc : TypeId × Value → H) : ∃ places, DataW.whole enc Tryz.prog ((laidWorld os).forCall (fun _ _ => 0) ⟨#[], wArgs, []⟩).memory Tryz.f5.params.toList Rows.fieldRanksSpec.vars false wArgs.toList 8 = some ([.nil], [], places) :=
  ⟨[], by kernel_rfl⟩
theorem hv (os : Os) : ((laidWorld os).forCall (fun _ _ => 0) ⟨#[], wArgs, []⟩).variablesRefB Tryz.checked.prog = true := by kernel_rfl
theorem hr (os : Os) : (((laidWorld os).forCall (fun _ _ => 0) ⟨#[], wArgs, []⟩).heap.toList.drop Tryz.checked.prog.globals.size).take ((begin Tryz.checked.prog (fun _ _ => 0) default).world.heap.size - Tryz.checked.prog.globals.size) =
      (begin Tryz.checked.prog (fun _ _ => 0) default).world.heap.toList.drop Tryz.checked.prog.globals.size := by kernel_rfl
theorem hok (os : Os) : Input.okWideB Tryz.checked.prog ((laidWorld os).forCall (fun _ _ => 0) ⟨#[], wArgs, []⟩) 5 ⟨#[], wArgs, []⟩ = true := by kernel_rfl
set_option maxRecDepth 100000 in
theorem lifted (os : Os) (started : os.Started) (H : Type) (enc : TypeId × Value → H) (F : Stop.Interp) :
    ReturnsInHanded {} Tryz.checked os 5 .any ((OpenSpec.ofChange Rows.fieldRanksSpec).preRow enc Tryz.prog Tryz.f5 Rows.fieldRanksRow.domain false Rows.fieldRanksRow.laid) (((OpenSpec.ofChange Rows.fieldRanksSpec).at F).post enc Tryz.prog Tryz.f5 false true false false) := by
  obtain ⟨places, hx⟩ := reads os enc
  refine returnsInHanded_of_row (C := Tryz.checked) (s := OpenSpec.ofChange Rows.fieldRanksSpec) own started (by kernel_rfl) Tryz.func5
    (witness_row_atRef (enc := enc) (C := Tryz.checked) false (laidWorld os) wArgs rfl (hv os) (hr os) (hok os)
      (OpenSpec.preRow_of_cond 8 hx (by kernel_rfl) (fun k hk => by cases hk) (by kernel_rfl) (laid_met os _))) ?_
  intro W base args ds gs before hval hW _ _ _ hL _ _
  exact contract H enc W base args ds gs before hval hW hL
end Go.Proofs.YtciaaphffkhjeaaGreatDoor.fieldRanks
