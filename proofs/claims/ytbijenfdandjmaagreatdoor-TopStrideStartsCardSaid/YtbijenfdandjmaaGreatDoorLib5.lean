/-
  Own work: the law TopStrideStarts: one of its cases.
-/
import Derived.Test.YtbijenfdandjmaaGreatDoorLib4
import Derived.Test.YtbijenfdandjmaaGreatDoorT5Row
namespace Go.Ab.T5
variable {M : Mach}
set_option maxHeartbeats 8000000 in
theorem w3g (C : C3 M) (l : List Int) (st by0 : Int) (hs : 0 ≤ st ∧ st < 256) (hb : 0 ≤ by0 ∧ by0 < 256) (h30 : ¬ 30 < l.length) (hE : samplesE l (1 + st) 20 = 0) (hF : ¬ firstAt l 20 < 0) (hA1 : ¬ firstAt l 20 * (1 + st) < 1000) : Ret3 M l st by0 := by
  unfold Ret3
  have hEnd : ∀ s : StW, s.s.dfs = [] → s.s.pe[3]? = some (.bool true) → ((fun (e : Ex) (s : StW) => (e = .normal ∨ e = .ret) ∧ s.s.dfs = [] ∧ ∃ vs, resultsA s.s [.var (.p 3)] = some vs ∧ tupA vs = .bool true ∧ (if (AV.bool true).top ≤ 0 then [] else s.s.hp) = []) Ex.ret s) := fun s h1 h2 =>
    ⟨.inr rfl, h1, [.bool true], by simp only [resultsA, St.opd, h2], rfl, rfl⟩
  have q5 := C.c5
  have q4 := fun h => C.c4 l none (1 + st) 20 h (by omega)
  rw [hE] at q4
  have hw : 0 ≤ by0 % 20 ∧ by0 % 20 < 20 := ⟨Int.emod_nonneg _ (by decide), Int.emod_lt_of_pos _ (by decide)⟩
  have hE2 := samples_later (by0 % 20).toNat hE (by omega) (by omega)
  have hF2 := first_later l (by0 % 20).toNat
  have hFl := first_lt l 20
  have q6 : ∀ h, M.ext 6 [.vs (ints l) l.length none, .int .i64 (1 + st), .int .i64 20] h = some ⟨.tup [.int .i64 (if firstAt l 20 < 0 then 0 else firstAt l 20 * (1 + st)), .int .i64 (if firstAt l 20 < 0 then 7 else 0)], h, []⟩ := fun h => by
    rw [C.c6 _ l _ _ _ (intsAt_vs ..) (by omega), if_neg (fun h : samplesE l (1 + st) 20 ≠ 0 => h hE), if_neg (fun h : samplesE l (1 + st) 20 ≠ 0 => h hE)]
  have q6b : ∀ v h, intsAt h v = some (List.replicate (by0 % 20).toNat 0 ++ l) → M.ext 6 [v, .int .i64 (1 + st), .int .i64 20] h = some ⟨.tup [.int .i64 (if firstAt l 20 < 0 then 0 else firstAt l 20 * (1 + st) + by0 % 20 * (1 + st)), .int .i64 (if firstAt l 20 < 0 then 7 else 0)], h, []⟩ := fun v h hv => by
    rw [C.c6 _ _ _ _ _ hv (by rw [List.length_append, List.length_replicate]; omega), if_neg (fun h : samplesE (List.replicate (by0 % 20).toNat 0 ++ l) (1 + st) 20 ≠ 0 => h hE2), if_neg (fun h : samplesE (List.replicate (by0 % 20).toNat 0 ++ l) (1 + st) 20 ≠ 0 => h hE2), hF2]
    by_cases hF : firstAt l 20 < 0
    · simp only [if_pos hF]; rfl
    · rw [if_neg hF, if_neg (by omega), if_neg (by omega), if_neg hF, if_neg hF, Int.add_mul, Int.toNat_of_nonneg hw.1]
  have z0 : sliceCells ([] ++ [some (Blk.cells (arr (fun x => [AV.int .i64 x]) (List.replicate (by0 % 20).toNat 0)) 3)]) (.vs (ints l) l.length none) = some (ints l, l.length) := rfl
  have zl : (ints l).length = l.length * 1 := arr_length (f := fun x : Int => [AV.int .i64 x]) (esz := 1) (fun _ => rfl) l
  have zo : (ints l).all oneA = true := one_arr (fun _ => rfl) l
  have zz : (arr (fun x => [AV.int .i64 x]) (List.replicate (by0 % 20).toNat 0)).length = (by0 % 20).toNat * 1 := by
    rw [arr_length (f := fun x : Int => [AV.int .i64 x]) (esz := 1) (fun _ => rfl), List.length_replicate]
  have za : arr (fun x => [AV.int .i64 x]) (List.replicate (by0 % 20).toNat 0) ++ ints l = ints (List.replicate (by0 % 20).toNat 0 ++ l) := by simp [ints, arr]
  refine run_of_W (by rw [C.ft]; exact ft3) (by simp) ?_
  have hF0 : 0 ≤ firstAt l 20 ∧ firstAt l 20 < l.length := by omega
  have h1 : 0 < l.length := by omega
  rw [if_neg hF, if_neg hF] at q6
  simp only [if_neg hF] at q6b
  have qb := q6b (.sl 1 0 ((by0 % 20).toNat + l.length) 1 none) ([] ++ [some (Blk.cells (arr (fun x => [AV.int .i64 x]) (List.replicate (by0 % 20).toNat 0)) 3)] ++ [some (Blk.cells (ints (List.replicate (by0 % 20).toNat 0 ++ l)) 3)]) (ints_at rfl (by simp))
  have hA : 0 ≤ firstAt l 20 * (1 + st) ∧ firstAt l 20 * (1 + st) ≤ 10000 := by
    have k1 : firstAt l 20 * (1 + st) ≤ 30 * (1 + st) := Int.mul_le_mul_of_nonneg_right (by omega) (by omega)
    have k2 : 0 ≤ firstAt l 20 * (1 + st) := Int.mul_nonneg (by omega) (by omega)
    omega
  have hW : 0 ≤ by0 % 20 * (1 + st) ∧ by0 % 20 * (1 + st) ≤ 10000 := by
    have k1 : by0 % 20 * (1 + st) ≤ 20 * (1 + st) := Int.mul_le_mul_of_nonneg_right (by omega) (by omega)
    have k2 : 0 ≤ by0 % 20 * (1 + st) := Int.mul_nonneg (by omega) (by omega)
    omega
  clear q6b hF hF0 hF2 hFl
  generalize firstAt l 20 * (1 + st) = A at *
  have hR := react0 (a := A) (b := A + by0 % 20 * (1 + st)) (by omega) (by omega)
  have qA : ∀ h, M.ext 8 [mkT (A + 1), mkT 1001] h = some ⟨.tup [.int .i64 (cmpT (A + 1)), .int .i64 0], h, []⟩ := fun h => C.c8 _ h (by omega) (by omega)
  have qB : ∀ h, M.ext 8 [mkT (A + by0 % 20 * (1 + st) + 1), mkT 1001] h = some ⟨.tup [.int .i64 (cmpT (A + by0 % 20 * (1 + st) + 1)), .int .i64 0], h, []⟩ := fun h => C.c8 _ h (by omega) (by omega)
  have hT : ∀ v, v < 1001 → cmpT v = -1 := fun v h => if_pos h
  have hG : ∀ v, 1001 ≤ v → 0 ≤ cmpT v := fun v h => by unfold cmpT; split <;> omega
  have hg := hG (A + 1) (by omega)
  have hg2 := hG (A + by0 % 20 * (1 + st) + 1) (by omega)
  generalize cmpT (A + 1) = g at *
  generalize cmpT (A + by0 % 20 * (1 + st) + 1) = g2 at *
  have hL := lanes0 (a := A) (b := A + by0 % 20 * (1 + st)) (by omega) (by omega)
  have q7 : ∀ h, intsAt h (.sl 2 0 3 1 (some 3)) = some [A, A + by0 % 20 * (1 + st), -1] → M.ext 7 [.sl 2 0 3 1 (some 3)] h = some ⟨.tup [.nilsl, .int .i64 0], h, []⟩ := fun h hv => C.c7n _ _ h hv (by simp) hR hL
  have q9 : ∀ h, M.ext 9 [.nilsl, .nilsl] h = some ⟨.bool true, h, []⟩ := fun h => by rw [C.c9 _ _ [] [] h rfl rfl (by simp)]; rfl
  have q10 : ∀ h, M.ext 10 [.nilsl, .int .i64 2] h = some ⟨.bool false, h, []⟩ := fun h => by rw [C.c10 _ [] 2 h rfl (by simp)]; rfl
  unfold b3
  simp only [List.map_cons, List.map_nil, List.getElem?_cons_zero, List.getElem?_cons_succ, List.getElem?_nil, Option.getD_some, Option.getD_none]
  repeat' first | (refine WO.apg rfl rfl rfl zz z0 ⟨zl, by decide, zo⟩ ⟨h1, by simp only [roomLimit]; omega⟩ za ?_) | apply W.seq | apply SQn | apply W.region | apply WO.nil | apply W.block | apply W.ret | apply W.exit | apply W.skip | apply SQr | apply SQe | apply BQn | apply BQr | apply BQe | (apply BQo; exact rfl) | apply LQe | apply LQr | (apply W.condT; exact rfl) | (apply W.condF; exact rfl) | (apply W.cond; exact rfl; all_goals intro _) | (apply WO.gT; exact rfl) | (apply WO.gF; exact rfl) | (apply WO.sT; exact rfl) | (apply WO.sF; exact rfl) | (apply WO.sU; exact rfl) | (apply WO.lss; exact rfl; exact rfl; all_goals first | (intro _; exfalso; omega) | intro _) | (apply WO.gtr; exact rfl; exact rfl; all_goals first | (intro _; exfalso; omega) | intro _) | (apply WO.eql; exact rfl; exact rfl; all_goals first | (intro _; exfalso; omega) | intro _) | (apply WO.neq; exact rfl; exact rfl; all_goals first | (intro _; exfalso; omega) | intro _) | (apply WO.cvi; exact rfl; omega) | (apply WO.pkT; exact rfl; exact rfl) | (apply WO.pkF; exact rfl; exact rfl) | (apply WO.add; exact rfl; exact rfl; omega) | (apply WO.mul; exact rfl; exact rfl; omega) | (apply WO.remp; exact rfl; exact rfl; omega; intro _ _) | (apply WO.remn; exact rfl; exact rfl; omega; intro _ _) | (apply WO.rem; exact rfl; exact rfl; omega) | (apply WO.cll; exact rfl; exact rfl; first | exact q4 _ | exact q5 _ | exact q6 _ | exact qb | exact q7 _ rfl) | (apply WO.mki; exact rfl; exact rfl; omega) | (apply WO.mkb; exact rfl; exact rfl; omega) | (apply WO.seql; exact rfl; exact rfl; all_goals first | (intro h; exact absurd h (by decide)) | (intro h; exact absurd rfl h) | (intro h; contradiction) | intro _) | (apply WO.sneq; exact rfl; exact rfl; all_goals first | (intro h; exact absurd h (by decide)) | (intro h; exact absurd rfl h) | (intro h; contradiction) | intro _) | (apply WO.clb; exact rfl; exact rfl; exact rfl; all_goals first | (intro h; exact absurd h (by decide)) | intro _) | (apply WO.cll; exact rfl; exact rfl; exact rfl) | (apply WO.hlv; exact rfl; exact rfl; exact rfl) | (apply WO.hpv; exact rfl; exact rfl; exact rfl) | (apply WO.hnv; exact rfl; exact rfl; exact rfl) | (apply WO.pl; exact rfl; exact rfl) | (apply WO.pp; exact rfl; exact rfl)
  refine iterN (i := 0) (A := A) (B := A + by0 % 20 * (1 + st)) _ _ _ _ _ _ _ _ _ _ _ _ _ _ _ _ _ (by decide) rfl (show 0 ≤ A ∧ A ≤ 100000000 by omega) qA hg fun a13 a14 a15 a16 lo => ?_
  refine iterN (i := 1) (A := A) (B := A + by0 % 20 * (1 + st)) _ _ _ _ _ _ _ _ _ _ _ _ _ _ _ _ _ (by decide) rfl (show 0 ≤ A + by0 % 20 * (1 + st) ∧ A + by0 % 20 * (1 + st) ≤ 100000000 by omega) qB hg2 fun a13 a14 a15 a16 lo => ?_
  refine out3 _ _ _ _ _ _ _ _ _ _ _ _ _ _ _ _ _ fun lo => ?_
  repeat' first | apply W.seq | apply SQn | apply W.region | apply WO.nil | apply W.block | apply W.ret | apply W.exit | apply W.skip | apply SQr | apply SQe | apply BQn | apply BQr | apply BQe | (apply BQo; exact rfl) | apply LQe | apply LQr | (apply W.condT; exact rfl) | (apply W.condF; exact rfl) | (apply W.cond; exact rfl; all_goals intro _) | (apply WO.gT; exact rfl) | (apply WO.gF; exact rfl) | (apply WO.sT; exact rfl) | (apply WO.sF; exact rfl) | (apply WO.sU; exact rfl) | (apply WO.lss; exact rfl; exact rfl; all_goals first | (intro _; exfalso; omega) | intro _) | (apply WO.gtr; exact rfl; exact rfl; all_goals first | (intro _; exfalso; omega) | intro _) | (apply WO.eql; exact rfl; exact rfl; all_goals first | (intro _; exfalso; omega) | intro _) | (apply WO.neq; exact rfl; exact rfl; all_goals first | (intro _; exfalso; omega) | intro _) | (apply WO.cvi; exact rfl; omega) | (apply WO.pkT; exact rfl; exact rfl) | (apply WO.pkF; exact rfl; exact rfl) | (apply WO.add; exact rfl; exact rfl; omega) | (apply WO.mul; exact rfl; exact rfl; omega) | (apply WO.remp; exact rfl; exact rfl; omega; intro _ _) | (apply WO.remn; exact rfl; exact rfl; omega; intro _ _) | (apply WO.rem; exact rfl; exact rfl; omega) | (apply WO.cll; exact rfl; exact rfl; first | exact q5 _ | exact q9 _ | exact q10 _) | (apply WO.mki; exact rfl; exact rfl; omega) | (apply WO.mkb; exact rfl; exact rfl; omega) | (apply WO.seql; exact rfl; exact rfl; all_goals first | (intro h; exact absurd h (by decide)) | (intro h; exact absurd rfl h) | (intro h; contradiction) | intro _) | (apply WO.sneq; exact rfl; exact rfl; all_goals first | (intro h; exact absurd h (by decide)) | (intro h; exact absurd rfl h) | (intro h; contradiction) | intro _) | (apply WO.clb; exact rfl; exact rfl; exact rfl; all_goals first | (intro h; exact absurd h (by decide)) | intro _) | (apply WO.cll; exact rfl; exact rfl; exact rfl) | (apply WO.hlv; exact rfl; exact rfl; exact rfl) | (apply WO.hpv; exact rfl; exact rfl; exact rfl) | (apply WO.hnv; exact rfl; exact rfl; exact rfl) | (apply WO.pl; exact rfl; exact rfl) | (apply WO.pp; exact rfl; exact rfl)
  all_goals exact hEnd _ rfl rfl
end Go.Ab.T5


/-
  Own work: the law TopStrideStarts.
-/
namespace Go.Ab.T5
variable {M : Mach}
theorem w3 (C : C3 M) (l : List Int) (st by0 : Int) (hs : 0 ≤ st ∧ st < 256) (hb : 0 ≤ by0 ∧ by0 < 256) : Run M 3 [.vs (ints l) l.length none, .int .u8 st, .int .u8 by0] [] ⟨.bool true, [], []⟩ := by
  by_cases h30 : 30 < l.length
  · exact w3a C l st by0 hs hb h30
  by_cases hE : samplesE l (1 + st) 20 = 0
  · by_cases hF : firstAt l 20 < 0
    · by_cases h0 : l = []
      · exact w3c C l st by0 hs hb h30 hE hF h0
      · exact w3d C l st by0 hs hb h30 hE hF h0
    · by_cases hA1 : firstAt l 20 * (1 + st) < 1000
      · by_cases hB1 : firstAt l 20 * (1 + st) + by0 % 20 * (1 + st) < 1000
        · exact w3e C l st by0 hs hb h30 hE hF hA1 hB1
        · exact w3f C l st by0 hs hb h30 hE hF hA1 hB1
      · exact w3g C l st by0 hs hb h30 hE hF hA1
  · exact w3b C l st by0 hs hb h30 hE
end Go.Ab.T5


/-
  Own work: the contracts of TopStrideStarts as a table.
-/
namespace Go.Ab
variable {ks : List Nat} {N : Nat}
theorem Rn.aggL {l l0 : List AV} (h : RnL ks N l l0) : Rn ks N (.agg l) (.agg l0) := .agg h.1 h.2
end Go.Ab
namespace Go.Ab.T5
open Go.Proofs

theorem ints_top (l : List Int) : topL (ints l) = 0 := topL_arr (fun _ => rfl) l
theorem novL_ints (l : List Int) : novL (ints l) = true := novL_arr (fun _ => rfl) l

def specAwake : Spec := spec0 [] (.bool true)
theorem race5 : SpecOK Tryz.prog gl 5 specAwake := spec0_ok gl_top rfl rfl o10
def specOut : Spec := fun
  | [.int .i64 x, .int .i64 lo, .int .i64 hi], h => some ⟨.bool (outI x lo hi), h, []⟩
  | _, _ => none
theorem out11 : SpecOK Tryz.prog gl 11 specOut := by
  intro xs h r hq
  unfold specOut at hq
  split at hq
  · cases hq
    exact ent_run0 seat tab_nil (w11 (M := mach Tryz.prog FT []) mach_ft _ _ _) (FrL.same rfl) rfl (.inl rfl)
  · cases hq
def specWhen : Spec := fun
  | [.bool t, .int .i64 e], h => some ⟨.int .i64 (if t then e else 0), h, []⟩
  | _, _ => none
theorem when21 : SpecOK Tryz.prog gl 21 specWhen := by
  intro xs h r hq
  unfold specWhen at hq
  split at hq
  · cases hq
    exact ent_run0 seat tab_nil (w21 (M := mach Tryz.prog FT []) mach_ft _ _) (FrL.same rfl) rfl (.inl rfl)
  · cases hq
def specRange : Spec := fun
  | [.int .i64 x, .int .i64 lo, .int .i64 hi], h => some ⟨.int .i64 (if outI x lo hi then 3 else 0), h, []⟩
  | _, _ => none
theorem range22 : SpecOK Tryz.prog gl 22 specRange := by
  intro xs h r hq
  unfold specRange at hq
  split at hq
  · cases hq
    exact ent_run0 seat (T := [(21, specWhen)]) (tab_cons when21 tab_nil) (w22 mach_ft (fun _ _ _ => by rw [mach_ext]; rfl) _ _ _) (FrL.same rfl) rfl (.inl rfl)
  · cases hq
def specFirst : Spec := fun
  | [v], h => match intsAt h v with
    | some l => if l.length < 4611686018427387904 then some ⟨.int .i64 (firstNZ l), h, []⟩ else none
    | none => none
  | _, _ => none
theorem first20 : SpecOK Tryz.prog gl 20 specFirst := by
  intro xs h r hq
  unfold specFirst at hq
  split at hq
  · split at hq
    · rename_i l hl
      split at hq
      · rename_i hn
        cases hq
        obtain ⟨S, cap, hf⟩ := (intsAt_sl hl).fr (fun _ => rfl)
        exact ent_run0 seat tab_nil (w20 (M := mach Tryz.prog FT []) mach_ft l hn) (.cons hf .nil) rfl (.inr rfl)
      · cases hq
    · cases hq
  · cases hq

def TC6 : List (Nat × Spec) := [(21, specWhen), (22, specRange), (20, specFirst)]
theorem TC6_ok : ExtOK Tryz.prog gl (extS TC6) := tab_cons when21 (tab_cons range22 (tab_cons first20 tab_nil))
theorem c6 : C6 (mach Tryz.prog FT TC6) where
  ft := mach_ft
  n18 _ _ := rfl
  n19 _ _ := rfl
  n23 _ _ := rfl
  n24 _ _ := rfl
  n25 _ _ := rfl
  c21 _ _ _ := by rw [mach_ext]; rfl
  c22 _ _ _ _ := by rw [mach_ext]; rfl
  c20 v l h hl hn := by
    rw [mach_ext]
    show specFirst [v] h = _
    simp only [specFirst, hl, if_pos hn]

def specReaction : Spec := fun
  | [v, .int .i64 s, .int .i64 t], h => match intsAt h v with
    | some l => if l.length < 1000000 then some ⟨.tup [.int .i64 (if samplesE l s t ≠ 0 then 0 else if firstAt l t < 0 then 0 else firstAt l t * s), .int .i64 (if samplesE l s t ≠ 0 then samplesE l s t else if firstAt l t < 0 then 7 else 0)], h, []⟩ else none
    | none => none
  | _, _ => none
theorem reaction6 : SpecOK Tryz.prog gl 6 specReaction := by
  intro xs h r hq
  unfold specReaction at hq
  split at hq
  · split at hq
    · rename_i l hl
      split at hq
      · rename_i hn
        cases hq
        obtain ⟨S, cap, hf⟩ := (intsAt_sl hl).fr (fun _ => rfl)
        exact ent_run0 seat TC6_ok (w6 c6 l _ _ hn) (.cons hf (.cons (.same rfl) (.cons (.same rfl) .nil))) rfl (.inr rfl)
      · cases hq
    · cases hq
  · cases hq
def TO11 : List (Nat × Spec) := [(11, specOut)]
theorem TO11_ok : ExtOK Tryz.prog gl (extS TO11) := tab_cons out11 tab_nil
def specSamples : Spec := fun
  | [v, .int .i64 s, .int .i64 t], h => match intsAt h v with
    | some l => if l.length < 1000000 then some ⟨.int .i64 (samplesE l s t), h, []⟩ else none
    | none => none
  | _, _ => none
theorem samples4 : SpecOK Tryz.prog gl 4 specSamples := by
  intro xs h r hq
  unfold specSamples at hq
  split at hq
  · split at hq
    · rename_i l hl
      split at hq
      · rename_i hn
        cases hq
        obtain ⟨S, cap, hf⟩ := (intsAt_sl hl).fr (fun _ => rfl)
        exact ent_run0 seat TO11_ok (w4 mach_ft (fun _ _ _ _ => by rw [mach_ext]; rfl) l _ _ hn) (.cons hf (.cons (.same rfl) (.cons (.same rfl) .nil))) rfl (.inr rfl)
      · cases hq
    · cases hq
  · cases hq
def specFalse : Spec := fun
  | [v], h => match intsAt h v with
    | some l => if l.length < 100000 then
        if reactE l ≠ 0 then some ⟨.tup [.nilsl, .int .i64 (reactE l)], h, []⟩
        else some (if lanes l 0 = [] then ⟨.tup [.nilsl, .int .i64 0], h, []⟩ else ⟨.tup [.sl h.length 0 (lanes l 0).length 1 none, .int .i64 0], h ++ [some (.cells (ints (lanes l 0)) 3)], []⟩)
      else none
    | none => none
  | _, _ => none
theorem false7 : SpecOK Tryz.prog gl 7 specFalse := by
  intro xs h r hq
  unfold specFalse at hq
  split at hq
  · split at hq
    · rename_i l hl
      split at hq
      · rename_i hn
        obtain ⟨S, cap, hf⟩ := (intsAt_sl hl).fr (fun _ => rfl)
        split at hq
        · rename_i hE
          cases hq
          exact ent_run0 seat TC6_ok (w7e c6 l hn hE) (.cons hf .nil) rfl (.inr rfl)
        · rename_i hE
          obtain ⟨v, hh, ho, hr⟩ := w7 (cap := cap) c6 l hn (Decidable.not_not.1 hE)
          rcases ho with ⟨h1, rfl⟩ | ⟨c, h0, rfl, h2⟩
          · rw [if_pos h1] at hq
            cases hq
            exact ent_run0 seat TC6_ok hr (.cons hf .nil) rfl (.inr rfl)
          · rw [if_neg h0] at hq
            cases hq
            refine ent_run1 seat TC6_ok hr (.cons hf .nil) (k := c) (.tup rfl fun i x y hx hy => ?_) h2 (ints_top _) (.inr (novL_ints _)) (.inr rfl)
            match i, hx, hy with
            | 0, hx, hy => cases hx; cases hy; exact .sl (i := 0) rfl
            | 1, hx, hy => cases hx; cases hy; exact .same rfl
      · cases hq
    · cases hq
  · cases hq
theorem two_fr {h : Heap} {x y : AV} {l m : List Int} (hx : intsAt h x = some l) (hy : intsAt h y = some m) : ∃ S c1 c2, Fr h S x (.vs (ints l) l.length c1) ∧ Fr h S y (.vs (ints m) m.length c2) :=
  let ⟨S1, c1, f1⟩ := (intsAt_sl hx).fr (fun _ => rfl)
  let ⟨S2, c2, f2⟩ := (intsAt_sl hy).fr (fun _ => rfl)
  ⟨S1 ++ S2, c1, c2, f1.mono (fun b hb => List.mem_append_left _ hb), f2.mono (fun b hb => List.mem_append_right _ hb)⟩
def specSame : Spec := fun
  | [x, y], h => match intsAt h x, intsAt h y with
    | some l, some m => if l.length < 4611686018427387904 then some ⟨.bool (decide (l = m)), h, []⟩ else none
    | _, _ => none
  | _, _ => none
theorem same9 : SpecOK Tryz.prog gl 9 specSame := by
  intro xs h r hq
  unfold specSame at hq
  split at hq
  · split at hq
    · rename_i l m hl hm
      split at hq
      · rename_i hlen
        cases hq
        obtain ⟨S, c1, c2, f1, f2⟩ := two_fr hl hm
        exact ent_run0 seat tab_nil (w9 (M := mach Tryz.prog FT []) mach_ft l m c1 c2 hlen) (.cons f1 (.cons f2 .nil)) rfl (.inr rfl)
      · cases hq
    · cases hq
  · cases hq

def specIn : Spec := fun
  | [x, .int .i64 n], h => match intsAt h x with
    | some l => if l.length < 4611686018427387904 then some ⟨.bool (decide (n ∈ l)), h, []⟩ else none
    | none => none
  | _, _ => none
theorem in10 : SpecOK Tryz.prog gl 10 specIn := by
  intro xs h r hq
  unfold specIn at hq
  split at hq
  · split at hq
    · rename_i l hl
      split at hq
      · rename_i hn
        cases hq
        obtain ⟨S, cap, hf⟩ := (intsAt_sl hl).fr (fun _ => rfl)
        exact ent_run0 seat tab_nil (w10 (M := mach Tryz.prog FT []) mach_ft l _ hn) (.cons hf (.cons (.same rfl) .nil)) rfl (.inr rfl)
      · cases hq
    · cases hq
  · cases hq
theorem out39 : SpecOK Tryz.prog gl 39 specOut := by
  intro xs h r hq
  unfold specOut at hq
  split at hq
  · cases hq
    exact ent_run0 seat tab_nil (w39 (M := mach Tryz.prog FT []) mach_ft _ _ _) (FrL.same rfl) rfl (.inl rfl)
  · cases hq

namespace A
theorem when28 : SpecOK Tryz.prog gl 28 specWhen := by
  intro xs h r hq
  unfold specWhen at hq
  split at hq
  · cases hq; exact ent_run0 seat tab_nil (w28 (T := []) rfl _ _) (FrL.same rfl) rfl (.inl rfl)
  · cases hq
theorem first_ok {f : Nat} (hw : ∀ (l : List Int) cap, l.length < 4611686018427387904 → Run (mach Tryz.prog FT []) f [.vs (ints l) l.length cap] [] ⟨.int .i64 (firstNZ l), [], []⟩) : SpecOK Tryz.prog gl f specFirst := by
  intro xs h r hq
  unfold specFirst at hq
  split at hq
  · split at hq
    · rename_i l hl
      split at hq
      · rename_i hlen
        cases hq
        obtain ⟨S, cap, hf⟩ := (intsAt_sl hl).fr (fun _ => rfl)
        exact ent_run0 seat tab_nil (hw l cap hlen) (.cons hf .nil) rfl (.inr rfl)
      · cases hq
    · cases hq
  · cases hq
theorem first26 : SpecOK Tryz.prog gl 26 specFirst := first_ok fun l cap h => w26 (T := []) rfl l cap h
theorem index56 : SpecOK Tryz.prog gl 56 specIndex := by
  intro xs h r hq
  unfold specIndex at hq
  split at hq
  · split at hq
    · rename_i l hl
      split at hq
      · rename_i hlen
        cases hq
        obtain ⟨S, cap, hf⟩ := (strsAt_sl hl).fr (fun _ => rfl)
        exact ent_run0 seat tab_nil (w56 (T := []) rfl l _ cap hlen) (.cons hf (.cons (.same rfl) .nil)) rfl (.inr rfl)
      · cases hq
    · cases hq
  · cases hq
theorem contains34 : SpecOK Tryz.prog gl 34 specContains := by
  intro xs h r hq
  unfold specContains at hq
  split at hq
  · split at hq
    · rename_i l hl
      split at hq
      · rename_i hlen
        cases hq
        obtain ⟨S, cap, hf⟩ := (strsAt_sl hl).fr (fun _ => rfl)
        exact ent_run0 seat (tab_cons index56 tab_nil) (w34 (T := []) rfl l _ cap hlen) (.cons hf (.cons (.same rfl) .nil)) rfl (.inr rfl)
      · cases hq
    · cases hq
  · cases hq
theorem reason38 : SpecOK Tryz.prog gl 38 specReason := by
  intro xs h r hq
  unfold specReason at hq
  split at hq
  · cases hq; exact ent_run0 seat (tab_cons contains34 tab_nil) (w38 (T := []) rfl _) (FrL.same rfl) rfl (.inl rfl)
  · cases hq
theorem kinds35 : SpecOK Tryz.prog gl 35 specKinds := by
  intro xs h r hq
  unfold specKinds at hq
  split at hq
  · cases hq
    have hk : ∀ (i b : Nat), ([0, 1, 2, 3] : List Nat)[i]? = some b → Rn [0, 1, 2, 3] h.length (.map b) (.map (h.length + i)) := fun i b hi => .map hi
    refine ent_run seat tab_nil (w35 (T := []) rfl) (FrL.nil (S := [])) (ks := [0, 1, 2, 3]) (by decide) (.map (i := 0) rfl) rfl (fun i b o1 hi ho => ?_) (.inl rfl)
    match i, hi, ho with
    | 0, hi, ho =>
      cases hi; cases ho
      refine ⟨_, rfl, .map (.same rfl) ?_, .inl rfl⟩
      refine .cons (.aggL (.cons (.same rfl) (.cons (.same rfl) (.cons (.same rfl) (.cons (hk 1 1 rfl) (.cons (.same rfl) .nil)))))) (.cons (.aggL (.cons (.same rfl) (.cons (.same rfl) (.cons (.same rfl) (.cons (hk 2 2 rfl) (.cons (.same rfl) .nil)))))) (.cons (.aggL (.cons (.same rfl) (.cons (.same rfl) (.cons (.same rfl) (.cons (hk 3 3 rfl) (.cons (.same rfl) .nil)))))) .nil))
    | 1, hi, ho => cases hi; cases ho; exact ⟨_, rfl, .map (.same rfl) (.same rfl), .inl rfl⟩
    | 2, hi, ho => cases hi; cases ho; exact ⟨_, rfl, .map (.same rfl) (.same rfl), .inl rfl⟩
    | 3, hi, ho => cases hi; cases ho; exact ⟨_, rfl, .map (.same rfl) (.same rfl), .inl rfl⟩
  · cases hq
theorem chk27 : SpecOK Tryz.prog gl 27 specChk := by
  intro xs h r hq
  unfold specChk at hq
  split at hq
  · cases hq; exact ent_run0 seat (tab_cons kinds35 (tab_cons reason38 (tab_cons when28 (tab_cons first26 (tab_cons out39 tab_nil))))) (w27 rfl _ _ _) (FrL.same rfl) rfl (.inl rfl)
  · cases hq
theorem worth40 : SpecOK Tryz.prog gl 40 specWorth := by
  intro xs h r hq
  unfold specWorth at hq
  split at hq
  · cases hq; exact ent_run0 seat (tab_cons kinds35 tab_nil) (w40 rfl _ _ _) (FrL.same rfl) rfl (.inl rfl)
  · cases hq
theorem cmp30 : SpecOK Tryz.prog gl 30 specCmp := by
  intro xs h r hq
  unfold specCmp at hq
  split at hq
  · cases hq; exact ent_run0 seat (tab_cons worth40 tab_nil) (w30 rfl _ _ _ _ _ _) (FrL.same rfl) rfl (.inl rfl)
  · cases hq
theorem differ29 : SpecOK Tryz.prog gl 29 specDiffer := by
  intro xs h r hq
  unfold specDiffer at hq
  split at hq
  · cases hq; exact ent_run0 seat tab_nil (w29 (T := []) rfl _ _ _ _ _ _) (FrL.same rfl) rfl (.inl rfl)
  · cases hq
theorem compare8 : SpecOK Tryz.prog gl 8 specCompare := by
  intro xs h r hq
  unfold specCompare at hq
  split at hq
  · cases hq; exact ent_run0 seat (tab_cons chk27 (tab_cons differ29 (tab_cons when28 (tab_cons first26 (tab_cons cmp30 tab_nil))))) (w8 rfl _ _ _ _ _ _) (FrL.same rfl) rfl (.inl rfl)
  · cases hq
end A

def specCmpT : Spec := fun
  | [.agg [.str k, .int .i64 v, .str r], .agg [.str k', .int .i64 v', .str r']], h =>
    if k = [116, 105, 109, 101] ∧ r = [] ∧ k' = [116, 105, 109, 101] ∧ r' = [] ∧ v' = 1001 ∧ 1 ≤ v ∧ v ≤ 863999999 then some ⟨.tup [.int .i64 (cmpT v), .int .i64 0], h, []⟩ else none
  | _, _ => none
theorem chk_time {v : Int} (h1 : 1 ≤ v) (h2 : v ≤ 863999999) : A.chk A.sTime v [] = 0 := by
  unfold A.chk
  rw [if_neg (by decide), if_neg (by decide), if_neg (by decide), if_neg]
  show ¬ (v < 1 ∨ 863999999 < v)
  omega
theorem worth_time {v : Int} (h0 : 0 ≤ v) (h1 : v ≤ 863999999) : A.worth A.sTime v = -v := by
  unfold A.worth
  rw [if_pos rfl, show 0 - v = -v from by omega]
  exact i64_wrap (by omega)
theorem compareT {v : Int} (h1 : 1 ≤ v) (h2 : v ≤ 863999999) : A.cmpE A.sTime v [] A.sTime 1001 [] = 0 ∧ A.cmpW (A.worth A.sTime v) (A.worth A.sTime 1001) = cmpT v := by
  refine ⟨?_, ?_⟩
  · unfold A.cmpE
    rw [chk_time h1 h2, chk_time (by decide) (by decide)]
    decide
  · rw [worth_time (by omega) h2, worth_time (by decide) (by decide)]
    unfold A.cmpW cmpT
    by_cases h : v < 1001
    · rw [if_pos (by omega), if_pos h]
    · by_cases h' : 1001 < v
      · rw [if_neg (by omega), if_pos (by omega), if_neg h, if_pos h']
      · rw [if_neg (by omega), if_neg (by omega), if_neg h, if_neg h']
theorem cmpT8 : SpecOK Tryz.prog gl 8 specCmpT := by
  intro xs h r hq
  unfold specCmpT at hq
  split at hq
  · split at hq
    · rename_i hc
      obtain ⟨rfl, rfl, rfl, rfl, rfl, h1, h2⟩ := hc
      cases hq
      refine A.compare8 _ _ _ ?_
      obtain ⟨e1, e2⟩ := compareT h1 h2
      show some _ = some _
      rw [show A.cmpE [116, 105, 109, 101] _ [] [116, 105, 109, 101] 1001 [] = 0 from e1, if_neg (by decide), show A.cmpW (A.worth [116, 105, 109, 101] _) (A.worth [116, 105, 109, 101] 1001) = cmpT _ from e2]
    · cases hq
  · cases hq

def TLaw : List (Nat × Spec) := [(5, specAwake), (4, specSamples), (6, specReaction), (7, specFalse), (8, specCmpT), (9, specSame), (10, specIn)]
theorem TLaw_ok : ExtOK Tryz.prog gl (extS TLaw) := tab_cons race5 (tab_cons samples4 (tab_cons reaction6 (tab_cons false7 (tab_cons cmpT8 (tab_cons same9 (tab_cons in10 tab_nil))))))
theorem calls3 : C3 (mach Tryz.prog FT TLaw) where
  ft := mach_ft
  c5 _ := by rw [mach_ext]; rfl
  c4 l cap s t h hn := by
    rw [mach_ext]
    show specSamples [.vs (ints l) l.length cap, .int .i64 s, .int .i64 t] h = _
    simp only [specSamples, intsAt_vs, if_pos hn]
  c6 v l s t h hv hn := by
    rw [mach_ext]
    show specReaction [v, .int .i64 s, .int .i64 t] h = _
    simp only [specReaction, hv, if_pos hn]
  c7n v l h hv hn hE h0 := by
    rw [mach_ext]
    show specFalse [v] h = _
    simp only [specFalse, hv, if_pos hn]
    rw [if_neg (fun h => h hE), if_pos h0]
  c7s v l h hv hn hE h0 := by
    rw [mach_ext]
    show specFalse [v] h = _
    simp only [specFalse, hv, if_pos hn]
    rw [if_neg (fun h => h hE), if_neg h0]
  c8 v h h1 h2 := by
    rw [mach_ext]
    show specCmpT [mkT v, mkT 1001] h = _
    simp only [specCmpT]
    rw [if_pos ⟨trivial, trivial, trivial, trivial, trivial, h1, h2⟩]
  c9 x y l m h hx hy hl := by
    rw [mach_ext]
    show specSame [x, y] h = _
    simp only [specSame, hx, hy, if_pos hl]
  c10 x l n h hx hl := by
    rw [mach_ext]
    show specIn [x, .int .i64 n] h = _
    simp only [specIn, hx, if_pos hl]
end Go.Ab.T5

