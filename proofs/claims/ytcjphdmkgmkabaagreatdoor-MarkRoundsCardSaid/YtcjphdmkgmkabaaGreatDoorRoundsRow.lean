/-
  Own work: MarkRounds: for all marks and classes the law answers true: the row's contract and its start.
-/
import Derived.Test.YtcjphdmkgmkabaaGreatDoorLib3
import Derived.Test.YtcjphdmkgmkabaaGreatDoorRounds
import Derived.Deep.Strs
namespace Go.Proofs.YtcjphdmkgmkabaaGreatDoor.markRounds
open Go.Ab Go.Ab.Ch1 Go.ChangeShapes Go.WideShapes Go.ChangeAt Go.RowKit
open Go.ChangeMaps (open_string)

theorem und49 : ∃ f0 f1 f2, Tryz.prog.underlying 49 = some (.struct #[f0, f1, f2]) ∧ f0.type = 9 ∧ f0.offset = 0 ∧ f1.type = 3 ∧ f1.offset = 1 ∧ f2.type = 9 ∧ f2.offset = 2 :=
  ⟨{ name := "Kind", type := 9, offset := 0, embedded := false, tag := "", pkgPath := "", byteOffset := 0 }, { name := "Value", type := 3, offset := 1, embedded := false, tag := "", pkgPath := "", byteOffset := 16 }, { name := "Reason", type := 9, offset := 2, embedded := false, tag := "", pkgPath := "", byteOffset := 24 }, by kernel_rfl, rfl, rfl, rfl, rfl, rfl, rfl⟩
theorem cells9 : Tryz.prog.cellsOf 9 = 1 := by kernel_rfl
theorem cells3 : Tryz.prog.cellsOf 3 = 1 := by kernel_rfl
theorem cells49 : Tryz.prog.cellsOf 49 = 3 := by kernel_rfl

set_option maxRecDepth 100000 in
theorem open_mark {H : Type} {enc : TypeId × Value → H} {W : World} {base : Nat} {sp : Nat → Bool} {v : Value} {d : DataW H} {ps : List MemPlace} (hval : Value.okWide Tryz.prog W .any base 49 v) (h : DataW.Trod enc Tryz.prog W 0 sp true 49 v d ps) :
    ∃ (k : ByteArray) (n : Int) (r : ByteArray), v = .agg #[.string k, .int .i64 n, .string r] ∧ d = .agg [.lit (.string k.data.toList), .lit (.int .i64 n), .lit (.string r.data.toList)] ∧ ps = [] := by
  obtain ⟨f0, f1, f2, hu, e0, o0, e1, o1, e2, o2⟩ := und49
  obtain ⟨cs, rfl, hsz⟩ := okWide_struct hu hval
  rw [cells49] at hsz
  obtain ⟨fuel, hf⟩ := h
  obtain ⟨l⟩ := cs
  match l, hsz with
  | [c0, c1, c2], _ =>
    obtain ⟨y0, y1, y2, n, hx, _, t0, t1, t2⟩ := Go.Deep.trod_struct3 hu hf
    simp only [e0, o0, e1, o1, e2, o2, cells9, cells3, Value.cells, List.drop, List.take] at t0 t1 t2
    obtain ⟨k, a0, rfl, _⟩ := DataW.trod_string und9 t0
    obtain ⟨z, a1, rfl, _⟩ := DataW.trod_int und3 t1
    obtain ⟨r, a2, rfl, _⟩ := DataW.trod_string und9 t2
    simp only [List.cons.injEq, and_true] at a0 a1 a2
    subst a0; subst a1; subst a2
    simp only [Prod.mk.injEq, List.nil_append] at hx
    exact ⟨k, z, r, rfl, hx.1, hx.2⟩

theorem v_mark {W : World} (k : ByteArray) (n : Int) (r : ByteArray) : V bare W (mkM k.data.toList n r.data.toList) (.agg #[.string k, .int .i64 n, .string r]) :=
  .agg (m := [.string k, .int .i64 n, .string r]) rfl fun i x y hx hy => by
    match i, hx, hy with
    | 0, hx, hy => cases hx; cases hy; exact V.str' k
    | 1, hx, hy => cases hx; cases hy; exact .int _ _
    | 2, hx, hy => cases hx; cases hy; exact V.str' r

def spec70 : Go.Ab.Spec := fun
  | [.int .i64 e], h => some ⟨.bool (decide (e = 0 ∨ e = 13 ∨ e = 4)), h, []⟩
  | _, _ => none
theorem kindErr70 : SpecOK Tryz.prog gl 70 spec70 := by
  intro xs h r hq
  unfold spec70 at hq
  split at hq
  · cases hq; exact ent_run0 seat tab_nil (w70 (T := []) rfl _) (FrL.same rfl) rfl (.inl rfl)
  · cases hq
abbrev TRounds : List (Nat × Go.Ab.Spec) := [(18, specAwake), (34, specBrief), (35, specChk), (37, specCompare), (40, specRound), (42, specWind), (69, specStep), (70, spec70)]
theorem TRounds_ok : ExtOK Tryz.prog gl (extS TRounds) :=
  tab_cons awake18 (tab_cons brief34 (tab_cons chk35 (tab_cons compare37 (tab_cons round40 (tab_cons wind42 (tab_cons step69 (tab_cons kindErr70 tab_nil)))))))
theorem calls11 : Calls11 (mach Tryz.prog Go.Ab.Ch1.FT TRounds) where
  c18 _ := by rw [mach_ext]; rfl
  c34 _ _ _ _ := by rw [mach_ext]; rfl
  c35 _ _ _ _ := by rw [mach_ext]; rfl
  c40 _ _ _ _ _ := by rw [mach_ext]; rfl
  c37 _ _ _ _ _ _ _ := by rw [mach_ext]; rfl
  c69 _ _ := by rw [mach_ext]; rfl
  c70 _ _ := by rw [mach_ext]; rfl
  c42 _ _ := by rw [mach_ext]; rfl
theorem law (k : List UInt8) (v : Int) (r : List UInt8) (k' : List UInt8) (v' : Int) (r' c : List UInt8) : Run (mach Tryz.prog Go.Ab.Ch1.FT TRounds) 11 [mkM k v r, mkM k' v' r', .str c] [] ⟨.bool true, [], []⟩ :=
  w11 mach_ft calls11 k v r k' v' r' c

set_option maxRecDepth 100000 in
theorem contract (H : Type) (enc : TypeId × Value → H) (W : World) (base : Nat) (args : Array Value) (ds gs : List (DataW H)) (before : List MemPlace)
    (hval : ∀ (j : Nat) t v, Tryz.f11.params[j]? = some t → args[j]? = some v → Value.okWide Tryz.prog W .any base t v)
    (hW : DataW.Whole enc Tryz.prog Tryz.f11.params.toList Rows.markRoundsSpec.vars false W args.toList ds gs before) (hL : laidMetH Tryz.prog Rows.markRoundsRow.laid W) :
    Calls Tryz.prog 11 args W fun e W' => ∃ v, e = .returned v ∧ Rows.markRoundsSpec.post enc Tryz.prog Tryz.f11 false true false false W args v W' := by
  have hW' := hW
  obtain ⟨p, q, hA0, hV, rfl, hfz, hnd⟩ := hW
  have hA : DataW.TrodAll enc Tryz.prog W 0 (fun _ => true) true Tryz.f11.params.toList args.toList ds p := hA0
  rw [Tryz.params11] at hA hval
  obtain ⟨v0, vs0, d0, ds0, p0, q0, hargs, rfl, rfl, h0, r0⟩ := trodAll_cons hA
  obtain ⟨v1, vs1, d1, ds1, p1, q1, rfl, rfl, rfl, h1, r1⟩ := trodAll_cons r0
  obtain ⟨v2, vs2, d2, ds2, p2, q2, rfl, rfl, rfl, h2, r2⟩ := trodAll_cons r1
  obtain ⟨rfl, rfl, rfl⟩ := trodAll_nil r2
  obtain rfl : args = #[v0, v1, v2] := by cases args; simp_all
  obtain ⟨rfl, rfl⟩ := trodVars_none hV
  obtain ⟨k, n, r, rfl, rfl, rfl⟩ := open_mark (hval 0 49 v0 rfl rfl) h0
  obtain ⟨k', n', r', rfl, rfl, rfl⟩ := open_mark (hval 1 49 v1 rfl rfl) h1
  obtain ⟨c, rfl, rfl, rfl, hmax⟩ := open_string und9 (hval 2 9 v2 rfl rfl) h2
  clear hA0
  refine (calls_true seat TRounds_ok (law k.data.toList n r.data.toList k'.data.toList n' r'.data.toList c.data.toList) (gl_of_tab (tab_of_laid (by kernel_rfl) hL)) (.cons (v_mark k n r) (.cons (v_mark k' n' r') (.cons (V.str' c) .nil)))).mono fun e W' ⟨he, hb⟩ => ?_
  subst he
  exact ⟨_, rfl, law_post hW' laidOut (by rw [Tryz.params11]; exact fun t ht => by simp at ht; rcases ht with rfl | rfl <;> exact ⟨by kernel_rfl, of_decide_eq_true (by kernel_rfl)⟩) rfl hb und4 (by kernel_rfl) rfl rfl rfl⟩

abbrev wArgs : Array Value := #[.agg #[.string ⟨#[]⟩, .int .i64 0, .string ⟨#[]⟩], .agg #[.string ⟨#[]⟩, .int .i64 0, .string ⟨#[]⟩], .string ⟨#[]⟩]
theorem reads (os : Os) {H : Type} (enc : TypeId × Value → H) : ∃ places, DataW.whole enc Tryz.prog ((laidWorld os).forCall (fun _ _ => 0) ⟨#[], wArgs, []⟩).memory Tryz.f11.params.toList Rows.markRoundsSpec.vars false wArgs.toList 8 = some ([.agg [.lit (.string []), .lit (.int .i64 0), .lit (.string [])], .agg [.lit (.string []), .lit (.int .i64 0), .lit (.string [])], .lit (.string [])], [], places) :=
  ⟨[], by kernel_rfl⟩
theorem hv (os : Os) : ((laidWorld os).forCall (fun _ _ => 0) ⟨#[], wArgs, []⟩).variablesRefB Tryz.checked.prog = true := by kernel_rfl
theorem hr (os : Os) : (((laidWorld os).forCall (fun _ _ => 0) ⟨#[], wArgs, []⟩).heap.toList.drop Tryz.checked.prog.globals.size).take ((begin Tryz.checked.prog (fun _ _ => 0) default).world.heap.size - Tryz.checked.prog.globals.size) =
      (begin Tryz.checked.prog (fun _ _ => 0) default).world.heap.toList.drop Tryz.checked.prog.globals.size := by kernel_rfl
theorem hok (os : Os) : Input.okWideB Tryz.checked.prog ((laidWorld os).forCall (fun _ _ => 0) ⟨#[], wArgs, []⟩) 11 ⟨#[], wArgs, []⟩ = true := by kernel_rfl

set_option maxRecDepth 100000 in
theorem lifted (os : Os) (started : os.Started) (H : Type) (enc : TypeId × Value → H) (F : Stop.Interp) :
    ReturnsInHanded {} Tryz.checked os 11 .any ((OpenSpec.ofChange Rows.markRoundsSpec).preRow enc Tryz.prog Tryz.f11 Rows.markRoundsRow.domain false Rows.markRoundsRow.laid) (((OpenSpec.ofChange Rows.markRoundsSpec).at F).post enc Tryz.prog Tryz.f11 false true false false) := by
  obtain ⟨places, hx⟩ := reads os enc
  refine returnsInHanded_of_row (C := Tryz.checked) (s := OpenSpec.ofChange Rows.markRoundsSpec) own started (by kernel_rfl) Tryz.func11
    (witness_row_atRef (enc := enc) (C := Tryz.checked) false (laidWorld os) wArgs rfl (hv os) (hr os) (hok os)
      (OpenSpec.preRow_of_cond 8 hx (by kernel_rfl) (fun k hk => by cases hk) (by kernel_rfl) (laid_met os _))) ?_
  intro W base args ds gs before hval hW _ _ _ hL _ _
  exact contract H enc W base args ds gs before hval hW hL
end Go.Proofs.YtcjphdmkgmkabaaGreatDoor.markRounds

