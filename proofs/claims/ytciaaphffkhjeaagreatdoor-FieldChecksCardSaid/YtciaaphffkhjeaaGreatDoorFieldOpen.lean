/-
  Own work: arguments that are contests, as the abstract machine sees them.
-/
import Derived.Test.YtciaaphffkhjeaaGreatDoorLib3
import Derived.Test.YtciaaphffkhjeaaGreatDoorLib2
import Derived.Deep.Slices
import Derived.Deep.Strs
import Derived.Lib.SmallJoins
import Derived.ChangeSame
namespace Go.Ab.Ch6
open Go.Proofs
open Go.ChangeShapes Go.WideShapes Go.RowKit
variable {H : Type} {enc : TypeId × Value → H} {P : Program} {W : World} {base : Nat} {sp : Nat → Bool} {t e : TypeId} {v : Value} {d : DataW H} {ps : List MemPlace}

theorem v_strs_cells (ht : P.underlying t = some (.slice e)) (he : P.underlying e = some .string) (hc : P.cellsOf e = 1) {c : Value} (hval : Cell.okWide P W .any base t c) {fuel : Nat} {x : DataW H × List MemPlace} (hf : DataW.trod enc P W 0 sp true fuel t [c] = some x) : ∃ l : List Str, V bare W (.vs (strs l) l.length none) c := by
  rcases Go.Deep.open_strs ht he hc hf with ⟨hcs, _⟩ | ⟨a, len, cap, m, Sx, hcs, _, hle, _, hm, _, hcell⟩
  · simp only [List.cons.injEq, and_true] at hcs
    subst hcs
    exact ⟨[], .vsN (fun n hn => by cases hn)⟩
  · simp only [List.cons.injEq, and_true] at hcs
    subst hcs
    have hs : a.spot = none := by
      simp only [ht, Cell.okWide, Cell.ok, World.has] at hval
      exact hval.2.2.2.1
    obtain ⟨b, off, spot⟩ := a
    simp only at hs
    subst hs
    have hlen : len ≤ m := by rw [hm]; split <;> omega
    refine ⟨(List.range len).map fun i => (Sx i).data.toList, ?_⟩
    have el : ((List.range len).map fun i => (Sx i).data.toList).length = len := by simp
    have e2 : strs ((List.range len).map fun i => (Sx i).data.toList) = (List.range len).map fun i => AV.str (Sx i).data.toList := by
      have e1 : ∀ l : List Str, strs l = l.map AV.str := fun l => by
        simp only [strs, arr]
        induction l with
        | nil => rfl
        | cons y l ih => simp only [List.flatMap_cons, List.map_cons, ih]; rfl
      rw [e1, List.map_map]; rfl
    rw [el]
    refine .vs b off (fun i => .string (Sx i)) (fun _ => free_bare) hle (fun n hn => by cases hn) (fun i hi => ?_) (fun i x hx => ?_)
    · have hi' : i < len := by rw [e2] at hi; simpa using hi
      have := (hcell i (by omega)).1
      rw [add_plain] at this
      exact this
    · rw [e2, List.getElem?_map, Option.map_eq_some_iff] at hx
      obtain ⟨z, hz, rfl⟩ := hx
      rw [List.getElem?_range] at hz
      · cases hz
        exact V.str' _
      · exact (List.getElem?_eq_some_iff.1 hz).1 |> fun h => by simpa using h

theorem v_ints_cells (ht : P.underlying t = some (.slice e)) (he : P.underlying e = some (.int .i64)) (hc : P.cellsOf e = 1) {c : Value} (hval : Cell.okWide P W .any base t c) {fuel : Nat} {x : DataW H × List MemPlace} (hf : DataW.trod enc P W 0 sp true fuel t [c] = some x) : ∃ l : List Int, V bare W (.vs (ints l) l.length none) c := by
  rcases open_ints ht he hc hf with ⟨hcs, _⟩ | ⟨a, len0, cap, zs, hcs, _, hle, _, hall, _, hcell, _⟩
  · simp only [List.cons.injEq, and_true] at hcs
    subst hcs
    exact ⟨[], .vsN (fun n hn => by cases hn)⟩
  · simp only [List.cons.injEq, and_true] at hcs
    subst hcs
    have hs : a.spot = none := by
      simp only [ht, Cell.okWide, Cell.ok, World.has] at hval
      exact hval.2.2.2.1
    obtain ⟨b, off, spot⟩ := a
    simp only at hs
    subst hs
    have hlen : len0 ≤ zs.length := by rw [hall]; split <;> omega
    have hl : (zs.take len0).length = len0 := by rw [List.length_take]; omega
    have e1 : ints (zs.take len0) = (zs.take len0).map fun x => AV.int .i64 x := by
      have : ∀ l : List Int, ints l = l.map fun x => AV.int .i64 x := fun l => by
        simp only [ints, arr]
        induction l with
        | nil => rfl
        | cons y l ih => simp only [List.flatMap_cons, List.map_cons, ih]; rfl
      exact this _
    refine ⟨zs.take len0, ?_⟩
    rw [hl]
    refine .vs b off (fun i => .int .i64 (zs.getD i 0)) (fun _ => free_bare) hle (fun n hn => by cases hn) (fun i hi => ?_) (fun i x hx => ?_)
    · have hi' : i < len0 := by rw [e1, List.length_map, hl] at hi; exact hi
      have := hcell i (by omega)
      rw [add_plain] at this
      exact this
    · rw [e1, List.getElem?_map, Option.map_eq_some_iff] at hx
      obtain ⟨z, hz, rfl⟩ := hx
      rw [List.getElem?_take] at hz
      split at hz
      · rw [List.getD_eq_getElem?_getD, hz]
        exact .int _ _
      · cases hz

theorem und24 : ∃ f0 f1 f2 f3, Tryz.prog.underlying 24 = some (.struct #[f0, f1, f2, f3]) ∧ (f0.type = 22 ∧ f0.offset = 0) ∧ (f1.type = 3 ∧ f1.offset = 1) ∧ (f2.type = 3 ∧ f2.offset = 2) ∧ f3.type = 3 ∧ f3.offset = 3 :=
  ⟨{ name := "Athletes", type := 22, offset := 0, embedded := false, tag := "", pkgPath := "", byteOffset := 0 }, { name := "Trials", type := 3, offset := 1, embedded := false, tag := "", pkgPath := "", byteOffset := 24 },
    { name := "Finalists", type := 3, offset := 2, embedded := false, tag := "", pkgPath := "", byteOffset := 32 }, { name := "More", type := 3, offset := 3, embedded := false, tag := "", pkgPath := "", byteOffset := 40 }, by kernel_rfl, ⟨rfl, rfl⟩, ⟨rfl, rfl⟩, ⟨rfl, rfl⟩, rfl, rfl⟩
theorem und27 : ∃ f0 f1 f2, Tryz.prog.underlying 27 = some (.struct #[f0, f1, f2]) ∧ (f0.type = 22 ∧ f0.offset = 0) ∧ (f1.type = 25 ∧ f1.offset = 1) ∧ f2.type = 3 ∧ f2.offset = 2 :=
  ⟨{ name := "Athletes", type := 22, offset := 0, embedded := false, tag := "", pkgPath := "", byteOffset := 0 }, { name := "Heights", type := 25, offset := 1, embedded := false, tag := "", pkgPath := "", byteOffset := 24 },
    { name := "Step", type := 3, offset := 2, embedded := false, tag := "", pkgPath := "", byteOffset := 48 }, by kernel_rfl, ⟨rfl, rfl⟩, ⟨rfl, rfl⟩, rfl, rfl⟩
theorem und22 : Tryz.prog.underlying 22 = some (.slice 9) := by kernel_rfl
theorem und25 : Tryz.prog.underlying 25 = some (.slice 3) := by kernel_rfl
theorem cells9 : Tryz.prog.cellsOf 9 = 1 := by kernel_rfl
theorem cells22 : Tryz.prog.cellsOf 22 = 1 := by kernel_rfl
theorem cells25 : Tryz.prog.cellsOf 25 = 1 := by kernel_rfl
theorem cells24 : Tryz.prog.cellsOf 24 = 4 := by kernel_rfl
theorem cells27 : Tryz.prog.cellsOf 27 = 3 := by kernel_rfl
theorem ctypes24 : Tryz.prog.cellTypes Tryz.prog.depth 24 = some [22, 3, 3, 3] := by kernel_rfl
theorem ctypes27 : Tryz.prog.cellTypes Tryz.prog.depth 27 = some [22, 25, 3] := by kernel_rfl

set_option maxRecDepth 100000 in
theorem v_contest {H : Type} {enc : TypeId × Value → H} {W : World} {base : Nat} {sp : Nat → Bool} {v : Value} {d : DataW H} {ps : List MemPlace} (hval : Value.okWide Tryz.prog W .any base 24 v) (h : DataW.Trod enc Tryz.prog W 0 sp true 24 v d ps) :
    ∃ (l : List Str) (t f m : Int), V bare W (.agg [.vs (strs l) l.length none, .int .i64 t, .int .i64 f, .int .i64 m]) v := by
  obtain ⟨f0, f1, f2, f3, hu, ⟨e0, o0⟩, ⟨e1, o1⟩, ⟨e2, o2⟩, e3, o3⟩ := und24
  simp only [Value.okWide, hu] at hval
  obtain ⟨cs, rfl, hsz, ts, hts, _, hall⟩ := hval
  rw [ctypes24] at hts
  obtain rfl : ts = [22, 3, 3, 3] := (Option.some.inj hts).symm
  rw [cells24] at hsz
  obtain ⟨fuel, hf⟩ := h
  obtain ⟨l⟩ := cs
  match l, hsz with
  | [c0, c1, c2, c3], _ =>
    obtain ⟨y0, y1, y2, y3, n, hx, _, t0, t1, t2, t3⟩ := Go.Joins.trod_struct4 hu hf
    simp only [e0, o0, e1, o1, e2, o2, e3, o3, cells3, cells22, Value.cells, List.drop, List.take] at t0 t1 t2 t3
    obtain ⟨z1, a1, _⟩ := DataW.trod_int und3 t1
    obtain ⟨z2, a2, _⟩ := DataW.trod_int und3 t2
    obtain ⟨z3, a3, _⟩ := DataW.trod_int und3 t3
    simp only [List.cons.injEq, and_true] at a1 a2 a3
    subst a1 a2 a3
    obtain ⟨u, hu1, hok⟩ := hall 0 c0 rfl
    obtain rfl : u = 22 := (Option.some.inj hu1).symm
    obtain ⟨l, hl⟩ := v_strs_cells und22 und9 cells9 hok t0
    exact ⟨l, z1, z2, z3, .agg (m := [c0, .int .i64 z1, .int .i64 z2, .int .i64 z3]) rfl fun i x y hx hy => by
      match i, hx, hy with
      | 0, hx, hy => cases hx; cases hy; exact hl
      | 1, hx, hy => cases hx; cases hy; exact .int _ _
      | 2, hx, hy => cases hx; cases hy; exact .int _ _
      | 3, hx, hy => cases hx; cases hy; exact .int _ _⟩

set_option maxRecDepth 100000 in
theorem v_vertical {H : Type} {enc : TypeId × Value → H} {W : World} {base : Nat} {sp : Nat → Bool} {v : Value} {d : DataW H} {ps : List MemPlace} (hval : Value.okWide Tryz.prog W .any base 27 v) (h : DataW.Trod enc Tryz.prog W 0 sp true 27 v d ps) :
    ∃ (l : List Str) (hs : List Int) (m : Int), V bare W (.agg [.vs (strs l) l.length none, .vs (ints hs) hs.length none, .int .i64 m]) v := by
  obtain ⟨f0, f1, f2, hu, ⟨e0, o0⟩, ⟨e1, o1⟩, e2, o2⟩ := und27
  simp only [Value.okWide, hu] at hval
  obtain ⟨cs, rfl, hsz, ts, hts, _, hall⟩ := hval
  rw [ctypes27] at hts
  obtain rfl : ts = [22, 25, 3] := (Option.some.inj hts).symm
  rw [cells27] at hsz
  obtain ⟨fuel, hf⟩ := h
  obtain ⟨l⟩ := cs
  match l, hsz with
  | [c0, c1, c2], _ =>
    obtain ⟨y0, y1, y2, n, hx, _, t0, t1, t2⟩ := Go.Deep.trod_struct3 hu hf
    simp only [e0, o0, e1, o1, e2, o2, cells3, cells22, cells25, Value.cells, List.drop, List.take] at t0 t1 t2
    obtain ⟨z2, a2, _⟩ := DataW.trod_int und3 t2
    simp only [List.cons.injEq, and_true] at a2
    subst a2
    obtain ⟨u, hu1, hok⟩ := hall 0 c0 rfl
    obtain rfl : u = 22 := (Option.some.inj hu1).symm
    obtain ⟨l, hl⟩ := v_strs_cells und22 und9 cells9 hok t0
    obtain ⟨u', hu1', hok'⟩ := hall 1 c1 rfl
    obtain rfl : u' = 25 := (Option.some.inj hu1').symm
    obtain ⟨hs, hl'⟩ := v_ints_cells und25 und3 cells3 hok' t1
    exact ⟨l, hs, z2, .agg (m := [c0, c1, .int .i64 z2]) rfl fun i x y hx hy => by
      match i, hx, hy with
      | 0, hx, hy => cases hx; cases hy; exact hl
      | 1, hx, hy => cases hx; cases hy; exact hl'
      | 2, hx, hy => cases hx; cases hy; exact .int _ _⟩
end Go.Ab.Ch6

