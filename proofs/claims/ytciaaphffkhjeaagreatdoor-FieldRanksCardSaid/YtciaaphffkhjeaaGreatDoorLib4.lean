/-
  Own work: chapter 6: the program's errors of rows; rows in memory of their own.
-/
import Derived.Test.YtciaaphffkhjeaaGreatDoorLib3
import Derived.Test.YtciaaphffkhjeaaGreatDoorLib2
import Derived.Test.YtciaaphffkhjeaaGreatDoorCh6Base
namespace Go.Ab.Ch6
variable {M : Mach} {cap c1 c2 : Option Nat}
theorem first3 (a b c : Int) : firstNZ [a, b, c] = if a ≠ 0 then a else if b ≠ 0 then b else c := by
  by_cases h1 : a = 0 <;> by_cases h2 : b = 0 <;> by_cases h3 : c = 0 <;> simp [firstNZ, h1, h2, h3]
theorem w75 (hft : M.FT = FT) (x : Int) : Run M 75 [.int .i64 x] [] ⟨.bool (decide (x < -2 ∨ 999999 < x)), [], []⟩ := by
  refine run_of_W (by rw [hft]; exact ft75) (by simp) ?_
  unfold b75
  simp only [List.map_cons, List.map_nil, List.getElem?_cons_zero, List.getElem?_cons_succ, List.getElem?_nil, Option.getD_some, Option.getD_none]
  repeat' first | apply W.seq | apply SQn | apply W.region | apply WO.nil | apply W.ret | (apply WO.gF; exact rfl) | (apply WO.sF; exact rfl) | (apply WO.lss; exact rfl; exact rfl; all_goals first | (intro _; exfalso; omega) | intro _) | (apply WO.gtr; exact rfl; exact rfl; all_goals first | (intro _; exfalso; omega) | intro _) | (apply WO.pkT; exact rfl; exact rfl) | (apply WO.pkF; exact rfl; exact rfl) | (apply WO.pl; exact rfl; exact rfl) | (apply WO.pp; exact rfl; exact rfl)
  · exact ⟨.inr rfl, rfl, _, rfl, by rw [decide_eq_true (.inl (by assumption))]; rfl, rfl⟩
  · exact ⟨.inr rfl, rfl, _, rfl, by rw [decide_eq_true (.inr (by assumption))]; rfl, rfl⟩
  · exact ⟨.inr rfl, rfl, _, rfl, by rw [decide_eq_false (by omega)]; rfl, rfl⟩
def idxP (p : Int → Bool) : List Int → Nat → Int
  | [], _ => -1
  | x :: l, i => if p x then i else idxP p l (i + 1)
theorem idxP_drop {p : Int → Bool} {l : List Int} {i : Nat} (h : i < l.length) : idxP p (l.drop i) i = if p l[i]! then (i : Int) else idxP p (l.drop (i + 1)) (i + 1) := by
  rw [List.drop_eq_getElem_cons h, idxP, getElem!_pos l i h]
theorem idxP_any {p : Int → Bool} : ∀ (l : List Int) (i : Nat), decide (0 ≤ idxP p l i) = l.any p
  | [], i => by simp [idxP]
  | x :: l, i => by
    rw [idxP, List.any_cons]
    cases h : p x
    · rw [if_neg (by simp), idxP_any l (i + 1)]; rfl
    · rw [if_pos rfl, decide_eq_true (by omega)]; rfl
theorem w125 (hft : M.FT = FT) {g : FuncId} {p : Int → Bool} (cg : ∀ x h, M.ext g [.int .i64 x] h = some ⟨.bool (p x), h, []⟩) (l : List Int) (hl : l.length < 4611686018427387904) : Run M 125 [.vs (ints l) l.length cap, .fn (.func g) [] []] [] ⟨.int .i64 (idxP p l 0), [], []⟩ := by
  refine run_of_W (by rw [hft]; exact ft125) (by simp) ?_
  unfold b125
  simp only [List.map_cons, List.map_nil, List.getElem?_cons_zero, List.getElem?_cons_succ, List.getElem?_nil, Option.getD_some, Option.getD_none]
  repeat' first | apply W.seq | apply SQn | apply W.region | apply WO.nil | apply W.block | (apply WO.pl; exact rfl; exact rfl) | (apply WO.pp; exact rfl; exact rfl)
  refine W.loopI l.length (fun i s => idxP p l 0 = idxP p (l.drop i) i ∧ ∃ a2 a3 lo wr, s = ⟨⟨[.vs (ints l) l.length cap, .fn (.func g) [] [], a2, a3, .int .i64 l.length, .int .i64 i], lo, [], []⟩, wr⟩) (fun i s hi ⟨he, a2, a3, lo, wr, hs⟩ => ?_) (fun s ⟨he, a2, a3, lo, wr, hs⟩ => ?_) (Nat.zero_le _) ⟨rfl, _, _, _, _, rfl⟩
  · subst hs
    have e := idxP_drop (p := p) hi
    have q := fun h => cg l[((i : Int)).toNat]! h
    unfold b125_0
    cases hp : p l[((i : Int)).toNat]!
    · rw [hp] at q
      rw [show p l[i]! = false from hp] at e
      repeat' first | apply W.seq | apply SQn | apply W.region | apply WO.nil | apply W.block | apply W.skip | apply BQn | (apply W.condT; exact rfl) | (apply W.condF; exact rfl) | (apply WO.lss; exact rfl; exact rfl; all_goals first | (intro _; exfalso; omega) | intro _) | (apply WO.add; exact rfl; exact rfl; omega) | (apply WO.cll; exact rfl; exact rfl; first | exact q _) | (apply WO.iav; exact rfl; exact rfl; omega) | (apply WO.lda; exact rfl; exact fun _ => rfl; (first | omega | (simp only [List.length_set]; omega) | (simp; omega)); decide; exact rfl; case ia => infer_instance) | (apply WO.pl; exact rfl; exact rfl) | (apply WO.pp; exact rfl; exact rfl)
      exact LIn ⟨by rw [he, e]; rfl, _, _, _, _, rfl⟩
    · rw [hp] at q
      rw [show p l[i]! = true from hp] at e
      repeat' first | apply W.seq | apply SQn | apply W.region | apply WO.nil | apply W.block | apply W.ret | apply W.skip | apply SQr | apply BQr | apply LIr | (apply W.condT; exact rfl) | (apply WO.lss; exact rfl; exact rfl; all_goals first | (intro _; exfalso; omega) | intro _) | (apply WO.cll; exact rfl; exact rfl; first | exact q _) | (apply WO.iav; exact rfl; exact rfl; omega) | (apply WO.lda; exact rfl; exact fun _ => rfl; (first | omega | (simp only [List.length_set]; omega) | (simp; omega)); decide; exact rfl; case ia => infer_instance) | (apply WO.pl; exact rfl; exact rfl) | (apply WO.pp; exact rfl; exact rfl)
      exact ⟨.inr rfl, rfl, _, rfl, by rw [he, e]; rfl, rfl⟩
  · subst hs
    unfold b125_0
    repeat' first | apply W.seq | apply SQn | apply W.region | apply WO.nil | apply W.ret | apply W.exit | apply SQe | apply BQe | apply LIe | (apply W.condF; exact rfl) | (apply WO.lss; exact rfl; exact rfl; all_goals first | (intro _; exfalso; omega) | intro _) | (apply WO.pp; exact rfl; exact rfl)
    exact ⟨.inr rfl, rfl, _, rfl, by rw [he, List.drop_length]; rfl, rfl⟩
theorem w74 (hft : M.FT = FT) {g : FuncId} {p : Int → Bool} (c125 : ∀ (l : List Int) cap h, l.length < 4611686018427387904 → M.ext 125 [.vs (ints l) l.length cap, .fn (.func g) [] []] h = some ⟨.int .i64 (idxP p l 0), h, []⟩) (l : List Int) (hl : l.length < 4611686018427387904) : Run M 74 [.vs (ints l) l.length cap, .fn (.func g) [] []] [] ⟨.bool (l.any p), [], []⟩ := by
  have q := fun h => c125 l cap h hl
  have e := idxP_any (p := p) l 0
  refine run_of_W (by rw [hft]; exact ft74) (by simp) ?_
  unfold b74
  simp only [List.map_cons, List.map_nil, List.getElem?_cons_zero, List.getElem?_cons_succ, List.getElem?_nil, Option.getD_some, Option.getD_none]
  repeat' first | apply W.seq | apply SQn | apply W.region | apply WO.nil | apply W.ret | (apply WO.geq; exact rfl; exact rfl; all_goals first | (intro _; exfalso; omega) | intro _) | (apply WO.cll; exact rfl; exact rfl; first | exact q _) | (apply WO.pl; exact rfl; exact rfl) | (apply WO.pp; exact rfl; exact rfl)
  · exact ⟨.inr rfl, rfl, _, rfl, by rw [← e, decide_eq_true (by assumption)]; rfl, rfl⟩
  · exact ⟨.inr rfl, rfl, _, rfl, by rw [← e, decide_eq_false (by omega)]; rfl, rfl⟩
theorem names_take (l : List Row) (i : Nat) : namesR (l.take i) = (namesR l).take i := by simp [namesR, List.map_take]
set_option maxHeartbeats 1000000 in
theorem w27 (C : CF M) (c74 : ∀ (l : List Int) cap h, l.length < 1000000 → M.ext 74 [.vs (ints l) l.length cap, .fn (.func 75) [] []] h = some ⟨.bool (farT l), h, []⟩) (c76 : ∀ (l : List Str) v (i : Nat) h, Sl stC h v l → l.length < 1000000 → (∀ s ∈ l, s.length < 1000000) → i < l.length → M.ext 76 [v, .int .i64 i] h = some ⟨.int .i64 (nameE l i), h, []⟩)
    (l : List Row) (hL : ∀ r ∈ l, r.who.length < 1000000 ∧ r.tr.length < 1000000) : Run M 27 [.vs (rowsC l) l.length cap] [] ⟨.int .i64 (rowsE l), [], []⟩ := by
  have q64 := C.c64
  refine run_of_W (by rw [C.ft]; exact ft27) (by simp) ?_
  unfold b27
  simp only [List.map_cons, List.map_nil, List.getElem?_cons_zero, List.getElem?_cons_succ, List.getElem?_nil, Option.getD_some, Option.getD_none]
  by_cases h : 32 < l.length
  · repeat' first | apply W.seq | apply SQn | apply W.region | apply WO.nil | apply W.ret | apply SQr | (apply W.condT; exact rfl) | (apply WO.gtr; exact rfl; exact rfl; all_goals first | (intro _; exfalso; omega) | intro _) | (apply WO.pl; exact rfl; exact rfl) | (apply WO.pp; exact rfl; exact rfl)
    exact ⟨.inr rfl, rfl, _, rfl, by rw [rowsE, if_pos h]; rfl, rfl⟩
  · repeat' first | apply W.seq | apply SQn | apply W.region | apply WO.nil | apply W.block | apply W.skip | (apply W.condF; exact rfl) | (apply WO.gtr; exact rfl; exact rfl; all_goals first | (intro _; exfalso; omega) | intro _) | (apply WO.pl; exact rfl; exact rfl) | (apply WO.pp; exact rfl; exact rfl)
    refine W.loopI l.length (fun i s => rowsE l = rowsF (namesR l) i (l.drop i) ∧ ∃ o a3 a4 a5 a6 lo K wr, s = ⟨⟨[.vs (rowsC l) l.length cap, .int .i64 0, o, a3, a4, a5, a6, .vs (rowsC l) l.length cap, .int .i64 l.length, .int .i64 i], lo, K, []⟩, wr⟩ ∧ OutL stC 1 9 K o (namesR (l.take i)) []) (fun i s hi ⟨he, o, a3, a4, a5, a6, lo, K, wr, hs, ho⟩ => ?_) (fun s ⟨he, o, a3, a4, a5, a6, lo, K, wr, hs, ho⟩ => ?_) (Nat.zero_le _) ⟨by rw [rowsE, if_neg h, List.drop_zero], _, _, _, _, _, _, _, _, rfl, .inl ⟨rfl, rfl⟩⟩
    · subst hs
      have e := rowsF_drop (names := namesR l) hi
      have hm : l[i]! ∈ l := by rw [getElem!_pos l i hi]; exact List.getElem_mem hi
      have hm' : l[((i : Int)).toNat]! ∈ l := hm
      have hroom : ((namesR (l.take i)).length + 1) * 16 ≤ roomLimit := by simp [namesR]; unfold roomLimit; omega
      have en : namesR (l.take (i + 1)) = namesR (l.take i) ++ [(l[((i : Int)).toNat]!).who] := by
        rw [Int.toNat_natCast, take_snoc' hi]; simp [namesR]
      have q74 := fun h => c74 (l[((i : Int)).toNat]!).tr none h (hL _ hm').2
      have hr : rowE (namesR l) i l[i]! = firstNZ [nameE (namesR l) i, if 6 < (l[((i : Int)).toNat]!).tr.length then 5 else 0, if farT (l[((i : Int)).toNat]!).tr = true then 3 else 0] := by
        rw [rowE_known, Int.toNat_natCast, first3]
        generalize l[i]! = r
        by_cases h2 : 6 < r.tr.length
        · rw [if_pos h2, if_pos h2, if_pos (show (5 : Int) ≠ 0 by decide)]
        · rw [if_neg h2, if_neg h2, if_neg (show ¬ (0 : Int) ≠ 0 by decide)]
      unfold b27_0
      repeat' first | apply W.seq | apply SQn | apply W.region | apply WO.nil | apply W.block | apply W.skip | (apply W.condT; exact rfl) | (apply WO.lss; exact rfl; exact rfl; all_goals first | (intro _; exfalso; omega) | intro _) | (apply WO.stK; exact rfl; exact rfl; exact ⟨rfl, by first | exact Nat.le_refl _ | decide | (simp [overwrite]), rfl⟩; exact rfl) | (apply WO.ldK; exact rfl; (first | exact at_new | assumption | exact at_old at_new | exact at_old (at_old at_new) | exact at_old (at_old (at_old at_new)) | exact at_put (by simp) | ((repeat apply at_old); assumption)); exact rfl) | (refine OutL.push (f := stC) (m := (l[((i : Int)).toNat]!).who) (fun _ => rfl) (fun _ => rfl) (by decide) (ho.grow _) (fun x hx => by rw [List.mem_singleton.1 hx]; simp) rfl rfl hroom (fun H w' o' ho' hk hlen => ?_)) | (apply WO.iav; exact rfl; exact rfl; omega) | (apply WO.lda; exact rfl; exact fun _ => rfl; (first | omega | (simp only [List.length_set]; omega) | (simp; omega)); decide; exact rfl; case ia => infer_instance) | (apply WO.hlv; exact rfl; exact rfl; exact rfl) | (apply WO.hpv; exact rfl; exact rfl; exact rfl) | (apply WO.pl; exact rfl; exact rfl) | (apply WO.pp; exact rfl; exact rfl)
      have hb := hk _ _ (List.mem_singleton.2 rfl) at_new
      have hbl := hlen _ (List.mem_singleton.2 rfl)
      have ho2 : Sl stC H o' (namesR (l.take (i + 1))) := by rw [en]; exact Sl.ofOut (f := stC) (esz := 1) (fun _ => rfl) ho'
      have q76 := c76 _ o' i H ho2 (by rw [len_names, List.length_take]; omega) (fun s hs => by
        simp only [namesR, List.mem_map] at hs
        obtain ⟨r, hr, rfl⟩ := hs
        exact (hL r (List.mem_of_mem_take hr)).1) (by rw [len_names, List.length_take]; omega)
      rw [names_take, nameE_take (by omega) (by rw [len_names]; omega)] at q76
      generalize nameE (namesR l) i = E1 at *
      have q61 := fun a b : Int => C.q3 H E1 a b
      cases h3 : farT (l[((i : Int)).toNat]!).tr
      · rw [h3] at q74 hr
        by_cases h2 : 6 < (l[((i : Int)).toNat]!).tr.length
        · rw [if_pos h2] at hr
          have q61 := q61 5 0
          rw [show firstNZ [E1, 5, 0] = rowE (namesR l) i l[i]! from hr.symm] at q61
          generalize rowE (namesR l) i l[i]! = R at *
          by_cases hR : R = 0
          · subst hR
            repeat' first | apply W.seq | apply SQn | apply W.region | apply WO.nil | apply W.skip | apply BQn | apply W.draw | apply WD.nil | (apply WD.pure1; exact rfl) | (apply WD.load1; exact rfl; exact rfl; exact rfl) | (apply WD.new1; exact rfl) | (apply W.condF; exact rfl) | (apply WO.gtr; exact rfl; exact rfl; all_goals first | (intro _; exfalso; omega) | intro _) | (apply WO.neq; exact rfl; exact rfl; all_goals first | (intro _; exfalso; omega) | intro _) | (apply WO.add; exact rfl; exact rfl; omega) | (apply WO.ldK; exact rfl; exact hb; exact rfl) | (apply WO.cll; exact rfl; exact rfl; first | exact q74 _ | exact q76 | exact q64 true _ _ | exact q64 false _ _ | exact q61) | (apply WD.cl0; exact rfl; exact rfl; exact rfl; first | exact q74 _ | exact q76 | exact q64 true _ _ | exact q64 false _ _ | exact q61) | (apply WO.hlv; exact rfl; exact rfl; exact rfl) | (apply WO.pl; exact rfl; exact rfl) | (apply WO.pp; exact rfl; exact rfl)
            exact LIn ⟨by rw [he, e]; rfl, _, _, _, _, _, _, _, _, rfl, by rw [en]; exact ho'.less.old⟩
          · repeat' first | apply W.seq | apply SQn | apply W.region | apply WO.nil | apply W.ret | apply SQr | apply BQr | apply LIr | apply W.draw | apply WD.nil | (apply WD.pure1; exact rfl) | (apply WD.load1; exact rfl; exact rfl; exact rfl) | (apply WD.new1; exact rfl) | (apply W.condT; exact rfl) | (apply WO.gtr; exact rfl; exact rfl; all_goals first | (intro _; exfalso; omega) | intro _) | (apply WO.neq; exact rfl; exact rfl; all_goals first | (intro _; exfalso; omega) | intro _) | (apply WO.ldK; exact rfl; exact hb; exact rfl) | (apply WO.cll; exact rfl; exact rfl; first | exact q74 _ | exact q76 | exact q64 true _ _ | exact q64 false _ _ | exact q61) | (apply WD.cl0; exact rfl; exact rfl; exact rfl; first | exact q74 _ | exact q76 | exact q64 true _ _ | exact q64 false _ _ | exact q61) | (apply WO.hlv; exact rfl; exact rfl; exact rfl) | (apply WO.pl; exact rfl; exact rfl) | (apply WO.pp; exact rfl; exact rfl)
            exact ⟨.inr rfl, rfl, _, rfl, by rw [he, e, if_pos hR]; rfl, rfl⟩
        · rw [if_neg h2] at hr
          have q61 := q61 0 0
          rw [show firstNZ [E1, 0, 0] = rowE (namesR l) i l[i]! from hr.symm] at q61
          generalize rowE (namesR l) i l[i]! = R at *
          by_cases hR : R = 0
          · subst hR
            repeat' first | apply W.seq | apply SQn | apply W.region | apply WO.nil | apply W.skip | apply BQn | apply W.draw | apply WD.nil | (apply WD.pure1; exact rfl) | (apply WD.load1; exact rfl; exact rfl; exact rfl) | (apply WD.new1; exact rfl) | (apply W.condF; exact rfl) | (apply WO.gtr; exact rfl; exact rfl; all_goals first | (intro _; exfalso; omega) | intro _) | (apply WO.neq; exact rfl; exact rfl; all_goals first | (intro _; exfalso; omega) | intro _) | (apply WO.add; exact rfl; exact rfl; omega) | (apply WO.ldK; exact rfl; exact hb; exact rfl) | (apply WO.cll; exact rfl; exact rfl; first | exact q74 _ | exact q76 | exact q64 true _ _ | exact q64 false _ _ | exact q61) | (apply WD.cl0; exact rfl; exact rfl; exact rfl; first | exact q74 _ | exact q76 | exact q64 true _ _ | exact q64 false _ _ | exact q61) | (apply WO.hlv; exact rfl; exact rfl; exact rfl) | (apply WO.pl; exact rfl; exact rfl) | (apply WO.pp; exact rfl; exact rfl)
            exact LIn ⟨by rw [he, e]; rfl, _, _, _, _, _, _, _, _, rfl, by rw [en]; exact ho'.less.old⟩
          · repeat' first | apply W.seq | apply SQn | apply W.region | apply WO.nil | apply W.ret | apply SQr | apply BQr | apply LIr | apply W.draw | apply WD.nil | (apply WD.pure1; exact rfl) | (apply WD.load1; exact rfl; exact rfl; exact rfl) | (apply WD.new1; exact rfl) | (apply W.condT; exact rfl) | (apply WO.gtr; exact rfl; exact rfl; all_goals first | (intro _; exfalso; omega) | intro _) | (apply WO.neq; exact rfl; exact rfl; all_goals first | (intro _; exfalso; omega) | intro _) | (apply WO.ldK; exact rfl; exact hb; exact rfl) | (apply WO.cll; exact rfl; exact rfl; first | exact q74 _ | exact q76 | exact q64 true _ _ | exact q64 false _ _ | exact q61) | (apply WD.cl0; exact rfl; exact rfl; exact rfl; first | exact q74 _ | exact q76 | exact q64 true _ _ | exact q64 false _ _ | exact q61) | (apply WO.hlv; exact rfl; exact rfl; exact rfl) | (apply WO.pl; exact rfl; exact rfl) | (apply WO.pp; exact rfl; exact rfl)
            exact ⟨.inr rfl, rfl, _, rfl, by rw [he, e, if_pos hR]; rfl, rfl⟩
      · rw [h3] at q74 hr
        by_cases h2 : 6 < (l[((i : Int)).toNat]!).tr.length
        · rw [if_pos h2] at hr
          have q61 := q61 5 3
          rw [show firstNZ [E1, 5, 3] = rowE (namesR l) i l[i]! from hr.symm] at q61
          generalize rowE (namesR l) i l[i]! = R at *
          by_cases hR : R = 0
          · subst hR
            repeat' first | apply W.seq | apply SQn | apply W.region | apply WO.nil | apply W.skip | apply BQn | apply W.draw | apply WD.nil | (apply WD.pure1; exact rfl) | (apply WD.load1; exact rfl; exact rfl; exact rfl) | (apply WD.new1; exact rfl) | (apply W.condF; exact rfl) | (apply WO.gtr; exact rfl; exact rfl; all_goals first | (intro _; exfalso; omega) | intro _) | (apply WO.neq; exact rfl; exact rfl; all_goals first | (intro _; exfalso; omega) | intro _) | (apply WO.add; exact rfl; exact rfl; omega) | (apply WO.ldK; exact rfl; exact hb; exact rfl) | (apply WO.cll; exact rfl; exact rfl; first | exact q74 _ | exact q76 | exact q64 true _ _ | exact q64 false _ _ | exact q61) | (apply WD.cl0; exact rfl; exact rfl; exact rfl; first | exact q74 _ | exact q76 | exact q64 true _ _ | exact q64 false _ _ | exact q61) | (apply WO.hlv; exact rfl; exact rfl; exact rfl) | (apply WO.pl; exact rfl; exact rfl) | (apply WO.pp; exact rfl; exact rfl)
            exact LIn ⟨by rw [he, e]; rfl, _, _, _, _, _, _, _, _, rfl, by rw [en]; exact ho'.less.old⟩
          · repeat' first | apply W.seq | apply SQn | apply W.region | apply WO.nil | apply W.ret | apply SQr | apply BQr | apply LIr | apply W.draw | apply WD.nil | (apply WD.pure1; exact rfl) | (apply WD.load1; exact rfl; exact rfl; exact rfl) | (apply WD.new1; exact rfl) | (apply W.condT; exact rfl) | (apply WO.gtr; exact rfl; exact rfl; all_goals first | (intro _; exfalso; omega) | intro _) | (apply WO.neq; exact rfl; exact rfl; all_goals first | (intro _; exfalso; omega) | intro _) | (apply WO.ldK; exact rfl; exact hb; exact rfl) | (apply WO.cll; exact rfl; exact rfl; first | exact q74 _ | exact q76 | exact q64 true _ _ | exact q64 false _ _ | exact q61) | (apply WD.cl0; exact rfl; exact rfl; exact rfl; first | exact q74 _ | exact q76 | exact q64 true _ _ | exact q64 false _ _ | exact q61) | (apply WO.hlv; exact rfl; exact rfl; exact rfl) | (apply WO.pl; exact rfl; exact rfl) | (apply WO.pp; exact rfl; exact rfl)
            exact ⟨.inr rfl, rfl, _, rfl, by rw [he, e, if_pos hR]; rfl, rfl⟩
        · rw [if_neg h2] at hr
          have q61 := q61 0 3
          rw [show firstNZ [E1, 0, 3] = rowE (namesR l) i l[i]! from hr.symm] at q61
          generalize rowE (namesR l) i l[i]! = R at *
          by_cases hR : R = 0
          · subst hR
            repeat' first | apply W.seq | apply SQn | apply W.region | apply WO.nil | apply W.skip | apply BQn | apply W.draw | apply WD.nil | (apply WD.pure1; exact rfl) | (apply WD.load1; exact rfl; exact rfl; exact rfl) | (apply WD.new1; exact rfl) | (apply W.condF; exact rfl) | (apply WO.gtr; exact rfl; exact rfl; all_goals first | (intro _; exfalso; omega) | intro _) | (apply WO.neq; exact rfl; exact rfl; all_goals first | (intro _; exfalso; omega) | intro _) | (apply WO.add; exact rfl; exact rfl; omega) | (apply WO.ldK; exact rfl; exact hb; exact rfl) | (apply WO.cll; exact rfl; exact rfl; first | exact q74 _ | exact q76 | exact q64 true _ _ | exact q64 false _ _ | exact q61) | (apply WD.cl0; exact rfl; exact rfl; exact rfl; first | exact q74 _ | exact q76 | exact q64 true _ _ | exact q64 false _ _ | exact q61) | (apply WO.hlv; exact rfl; exact rfl; exact rfl) | (apply WO.pl; exact rfl; exact rfl) | (apply WO.pp; exact rfl; exact rfl)
            exact LIn ⟨by rw [he, e]; rfl, _, _, _, _, _, _, _, _, rfl, by rw [en]; exact ho'.less.old⟩
          · repeat' first | apply W.seq | apply SQn | apply W.region | apply WO.nil | apply W.ret | apply SQr | apply BQr | apply LIr | apply W.draw | apply WD.nil | (apply WD.pure1; exact rfl) | (apply WD.load1; exact rfl; exact rfl; exact rfl) | (apply WD.new1; exact rfl) | (apply W.condT; exact rfl) | (apply WO.gtr; exact rfl; exact rfl; all_goals first | (intro _; exfalso; omega) | intro _) | (apply WO.neq; exact rfl; exact rfl; all_goals first | (intro _; exfalso; omega) | intro _) | (apply WO.ldK; exact rfl; exact hb; exact rfl) | (apply WO.cll; exact rfl; exact rfl; first | exact q74 _ | exact q76 | exact q64 true _ _ | exact q64 false _ _ | exact q61) | (apply WD.cl0; exact rfl; exact rfl; exact rfl; first | exact q74 _ | exact q76 | exact q64 true _ _ | exact q64 false _ _ | exact q61) | (apply WO.hlv; exact rfl; exact rfl; exact rfl) | (apply WO.pl; exact rfl; exact rfl) | (apply WO.pp; exact rfl; exact rfl)
            exact ⟨.inr rfl, rfl, _, rfl, by rw [he, e, if_pos hR]; rfl, rfl⟩
    · subst hs
      unfold b27_0
      repeat' first | apply W.seq | apply SQn | apply W.region | apply WO.nil | apply W.ret | apply W.exit | apply SQe | apply BQe | apply LIe | (apply W.condF; exact rfl) | (apply WO.lss; exact rfl; exact rfl; all_goals first | (intro _; exfalso; omega) | intro _) | (apply WO.pp; exact rfl; exact rfl)
      exact ⟨.inr rfl, rfl, _, rfl, by rw [he, List.drop_length]; rfl, rfl⟩
end Go.Ab.Ch6

/-
  Own work: chapter 6: rows in memory of their own; the reference's errors of rows that are not a competition's; lists of texts compared.
-/
namespace Go.Ab.Ch6
variable {M : Mach} {cap c1 c2 : Option Nat}
theorem ints_len (l : List Int) : (ints l).length = l.length := by
  have := arr_length (f := fun x => [AV.int .i64 x]) (esz := 1) (fun _ => rfl) l
  simpa [ints] using this
theorem one_ints (l : List Int) : (ints l).all oneA = true := one_arr (fun _ => rfl) l
theorem top_ints (l : List Int) : topL (ints l) = 0 := topL_arr (fun _ => rfl) l
theorem top_row (r : Row) : topL (rowC r) = 0 := by
  simp only [rowC, topL, AV.top, top_ints]; rfl
theorem row_fr {H : Heap} {b : Nat} {c : Option Nat} {r : Row} {e : TypeId} {S : List Nat} (hb : H.at b = some (.cells (ints r.tr) e)) (hS : b ∈ S) : FrL H S [.str r.who, .sl b 0 r.tr.length 1 c, .bool r.ret] (rowC r) :=
  .cons (.same rfl) (.cons ((frz_cells (f := fun x => [AV.int .i64 x]) (fun _ => rfl) (fun _ => rfl) hb rfl).mono fun x hx => by rw [List.mem_singleton.1 hx]; exact hS) (.cons (.same rfl) .nil))
theorem row_fr0 {H : Heap} {b : Nat} {c : Option Nat} {r : Row} {e : TypeId} {S : List Nat} (h0 : r.tr = []) (hb : H.at b = some (.cells [] e)) (hS : b ∈ S) : FrL H S [.str r.who, .sl b 0 0 1 c, .bool r.ret] (rowC r) := by
  have := row_fr (c := c) (r := r) (e := e) (S := S) (H := H) (b := b) (by rw [h0]; exact hb) hS
  rw [h0] at this
  unfold rowC
  rw [h0]
  rw [rowC, h0] at this
  exact this
set_option maxHeartbeats 1000000 in
theorem w24 (hft : M.FT = FT) (l : List Row) (hl : l.length < 1000000) (hL : ∀ r ∈ l, r.tr.length < 1000000) : ∃ v hh, (∃ B, Fr hh B v (.vs (rowsC l) l.length none)) ∧ Run M 24 [.vs (rowsC l) l.length cap] [] ⟨v, hh, []⟩ := by
  refine run_ofE (P := fun v hh => ∃ B, Fr hh B v (.vs (rowsC l) l.length none)) (by rw [hft]; exact ft24) (by simp) ?_
  unfold b24
  simp only [List.map_cons, List.map_nil, List.getElem?_cons_zero, List.getElem?_cons_succ, List.getElem?_nil, Option.getD_some, Option.getD_none]
  repeat' first | apply W.seq | apply SQn | apply W.region | apply WO.nil | apply W.block | (apply WO.pp; exact rfl; exact rfl)
  refine W.loopI l.length (fun i s => ∃ o a3 lo K wr S, s = ⟨⟨[.vs (rowsC l) l.length cap, .nilsl, o, a3, .vs (rowsC l) l.length cap, .int .i64 l.length, .int .i64 i], lo, K, []⟩, wr⟩ ∧ OutF rowC 3 113 K o (l.take i) S ∧ ∀ x ∈ S, x < K.length) (fun i s hi ⟨o, a3, lo, K, wr, S, hs, ho, hS⟩ => ?_) (fun s ⟨o, a3, lo, K, wr, S, hs, ho, hS⟩ => ?_) (Nat.zero_le _) ⟨_, _, _, _, _, [], rfl, .nil, by simp⟩
  · subst hs
    have hm : l[((i : Int)).toNat]! ∈ l := by rw [Int.toNat_natCast, getElem!_pos l i hi]; exact List.getElem_mem hi
    have htr := hL _ hm
    have e := take_snoc' hi
    rw [show l[i]! = l[((i : Int)).toNat]! from rfl] at e
    have hroom : ((l.take i).length + 1) * 48 ≤ roomLimit := by rw [List.length_take]; unfold roomLimit; omega
    unfold b24_0
    by_cases h0 : (l[((i : Int)).toNat]!).tr = []
    · have hs0 : ∀ H, sliceCells H (.vs (ints (l[((i : Int)).toNat]!).tr) (l[((i : Int)).toNat]!).tr.length none) = some ([], 0) := fun H => by rw [h0]; rfl
      repeat' first | (apply WO.ap0; exact rfl; exact rfl; exact hs0 _; decide) | (apply WO.stj; exact rfl; exact rfl; exact at_old at_new; exact ⟨rfl, by simp [overwrite, rowC], rfl⟩; exact rfl) | apply W.seq | apply SQn | apply W.region | apply WO.nil | apply W.block | apply W.skip | (apply W.condT; exact rfl) | (apply WO.lss; exact rfl; exact rfl; all_goals first | (intro _; exfalso; omega) | intro _) | (apply WO.stK; exact rfl; exact rfl; exact ⟨rfl, by first | exact Nat.le_refl _ | decide | (simp [overwrite]), rfl⟩; exact rfl) | (apply WO.ldK; exact rfl; (first | exact at_new | assumption | exact at_old at_new | exact at_old (at_old at_new) | exact at_old (at_old (at_old at_new)) | exact at_put (by simp) | ((repeat apply at_old); assumption)); exact rfl) | (apply WO.iav; exact rfl; exact rfl; omega) | (apply WO.lda; exact rfl; exact fun _ => rfl; (first | omega | (simp only [List.length_set]; omega) | (simp; omega)); decide; exact rfl; case ia => infer_instance) | (apply WO.hlv; exact rfl; exact rfl; exact rfl) | (apply WO.hpv; exact rfl; exact rfl; exact rfl) | (apply WO.pl; exact rfl; exact rfl)
      refine OutF.push (f := rowC) (m := l[((i : Int)).toNat]!) (S := List.length (K ++ [some (Blk.cells (overwrite [AV.str [], AV.nilsl, AV.bool false] 0 (List.take 3 (List.drop 0 (rowC l[((i : Int)).toNat]!)))) 145)]) :: S) (row_fr0 (e := 3) h0 ?_ (by simp)) rfl rfl (by decide) (ho.keep ?_ (fun b hb => List.mem_cons_of_mem _ hb) ?_) ?_ rfl rfl hroom (fun H w' o' ho' hk hlen hlen2 => ?_)
      · exact at_else (by simp) at_new
      · intro b x hb
        exact at_else (by have := at_lt hb; omega) (at_old (at_old hb))
      · intro b hb hn
        rcases List.mem_cons.1 hb with rfl | hb
        · simp
        · exact absurd hb hn
      · intro x hx
        rcases List.mem_cons.1 hx with rfl | hx
        · simp [put_length]
        · have := hS x hx; simp [put_length]; omega
      · repeat' first | apply SQn | apply W.region | apply WO.nil | apply BQn | (apply WO.add; exact rfl; exact rfl; omega) | (apply WO.pp; exact rfl; exact rfl)
        exact LIn ⟨_, _, _, _, _, _, rfl, by rw [e]; exact ho', hlen⟩
    · have hp : 0 < (l[((i : Int)).toNat]!).tr.length := List.length_pos_iff.2 h0
      have hs1 : ∀ H, sliceCells H (.vs (ints (l[((i : Int)).toNat]!).tr) (l[((i : Int)).toNat]!).tr.length none) = some (ints (l[((i : Int)).toNat]!).tr, (l[((i : Int)).toNat]!).tr.length) := fun H => rfl
      have hroom2 : (l[((i : Int)).toNat]!).tr.length * 8 ≤ roomLimit := by unfold roomLimit; omega
      repeat' first | (apply WO.apc; exact rfl; exact rfl; exact at_new; exact hs1 _; exact ⟨by rw [ints_len, Nat.mul_one], by decide, one_ints _⟩; exact ⟨hp, hroom2⟩) | (apply WO.stj; exact rfl; exact rfl; exact at_old (at_old at_new); exact ⟨rfl, by simp [overwrite, rowC], rfl⟩; exact rfl) | apply W.seq | apply SQn | apply W.region | apply WO.nil | apply W.block | apply W.skip | (apply W.condT; exact rfl) | (apply WO.lss; exact rfl; exact rfl; all_goals first | (intro _; exfalso; omega) | intro _) | (apply WO.stK; exact rfl; exact rfl; exact ⟨rfl, by first | exact Nat.le_refl _ | decide | (simp [overwrite]), rfl⟩; exact rfl) | (apply WO.ldK; exact rfl; (first | exact at_new | assumption | exact at_old at_new | exact at_old (at_old at_new) | exact at_old (at_old (at_old at_new)) | exact at_put (by simp) | ((repeat apply at_old); assumption)); exact rfl) | (apply WO.iav; exact rfl; exact rfl; omega) | (apply WO.lda; exact rfl; exact fun _ => rfl; (first | omega | (simp only [List.length_set]; omega) | (simp; omega)); decide; exact rfl; case ia => infer_instance) | (apply WO.hlv; exact rfl; exact rfl; exact rfl) | (apply WO.hpv; exact rfl; exact rfl; exact rfl) | (apply WO.pl; exact rfl; exact rfl)
      refine OutF.push (f := rowC) (m := l[((i : Int)).toNat]!) (S := List.length (K ++ [some (Blk.cells (overwrite [AV.str [], AV.nilsl, AV.bool false] 0 (List.take 3 (List.drop 0 (rowC l[((i : Int)).toNat]!)))) 145)] ++ [some (Blk.cells (repeatZero [AV.int IntKind.i64 0] 0) 3)]) :: S) (row_fr (e := 3) ?_ (by simp)) rfl rfl (by decide) (ho.keep ?_ (fun b hb => List.mem_cons_of_mem _ hb) ?_) ?_ rfl rfl hroom (fun H w' o' ho' hk hlen hlen2 => ?_)
      · exact at_else (by simp) at_new
      · intro b x hb
        exact at_else (by have := at_lt hb; omega) (at_old (at_old (at_old hb)))
      · intro b hb hn
        rcases List.mem_cons.1 hb with rfl | hb
        · simp
        · exact absurd hb hn
      · intro x hx
        rcases List.mem_cons.1 hx with rfl | hx
        · simp [put_length]
        · have := hS x hx; simp [put_length]; omega
      · repeat' first | apply SQn | apply W.region | apply WO.nil | apply BQn | (apply WO.add; exact rfl; exact rfl; omega) | (apply WO.pp; exact rfl; exact rfl)
        exact LIn ⟨_, _, _, _, _, _, rfl, by rw [e]; exact ho', hlen⟩
  · subst hs
    rw [List.take_length] at ho
    unfold b24_0
    repeat' first | apply W.seq | apply SQn | apply W.region | apply WO.nil | apply W.ret | apply W.exit | apply SQe | apply BQe | apply LIe | (apply W.condF; exact rfl) | (apply WO.lss; exact rfl; exact rfl; all_goals first | (intro _; exfalso; omega) | intro _) | (apply WO.pl; exact rfl; exact rfl) | (apply WO.pp; exact rfl; exact rfl)
    exact ⟨.inr rfl, rfl, _, rfl, ho.finF⟩
end Go.Ab.Ch6

/-
  Own work: chapter 6: series and ranks of the reference; comparisons of series.
-/
namespace Go.Ab.Ch6
variable {M : Mach} {cap c1 c2 : Option Nat}
theorem lexGt_drop {a b : List Int} {i : Nat} (h : i < a.length) : lexGt (a.drop i) (b.drop i) = if i < b.length then (if b[i]! < a[i]! then true else if a[i]! < b[i]! then false else lexGt (a.drop (i + 1)) (b.drop (i + 1))) else true := by
  rw [List.drop_eq_getElem_cons h, ← getElem!_pos a i h]
  by_cases hb : i < b.length
  · rw [List.drop_eq_getElem_cons hb, ← getElem!_pos b i hb, if_pos hb]; rfl
  · rw [if_neg hb, List.drop_eq_nil_of_le (Nat.le_of_not_lt hb)]; rfl
theorem w127 (hft : M.FT = FT) (a b : List Int) (hl : a.length < 1000000) : Run M 127 [.vs (ints a) a.length c1, .vs (ints b) b.length c2] [] ⟨.bool (lexGt a b), [], []⟩ := by
  refine run_of_W (by rw [hft]; exact ft127) (by simp) ?_
  unfold b127
  simp only [List.map_cons, List.map_nil, List.getElem?_cons_zero, List.getElem?_cons_succ, List.getElem?_nil, Option.getD_some, Option.getD_none]
  repeat' first | apply W.seq | apply SQn | apply W.region | apply WO.nil | apply W.block | (apply WO.pp; exact rfl; exact rfl)
  refine W.loopI a.length (fun i s => lexGt a b = lexGt (a.drop i) (b.drop i) ∧ ∃ lo wr, s = ⟨⟨[.vs (ints a) a.length c1, .vs (ints b) b.length c2, .bool false, .int .i64 i], lo, [], []⟩, wr⟩) (fun i s hi ⟨he, lo, wr, hs⟩ => ?_) (fun s ⟨he, lo, wr, hs⟩ => ?_) (Nat.zero_le _) ⟨rfl, _, _, rfl⟩
  · subst hs
    have e := lexGt_drop (b := b) hi
    rw [show a[i]! = a[((i : Int)).toNat]! from rfl, show b[i]! = b[((i : Int)).toNat]! from rfl] at e
    unfold b127_0
    by_cases hb : i < b.length
    · rw [if_pos hb] at e
      repeat' first | apply W.seq | apply SQn | apply W.region | apply WO.nil | apply W.block | apply W.ret | apply W.skip | apply SQr | apply BQn | apply BQr | apply LIr | (apply W.drawro; exact rfl) | (apply W.condT; exact rfl) | (apply W.condF; exact rfl) | (apply WO.gF; exact rfl) | (apply WO.lss; exact rfl; exact rfl; all_goals first | (intro _; exfalso; omega) | intro _) | (apply WO.gtr; exact rfl; exact rfl; all_goals first | (intro _; exfalso; omega) | intro _) | (apply WO.geq; exact rfl; exact rfl; all_goals first | (intro _; exfalso; omega) | intro _) | (apply WO.pkF; exact rfl; exact rfl) | (apply WO.add; exact rfl; exact rfl; omega) | (apply WO.iav; exact rfl; exact rfl; omega) | (apply WO.lda; exact rfl; exact fun _ => rfl; (first | omega | (simp only [List.length_set]; omega) | (simp; omega)); decide; exact rfl; case ia => infer_instance) | (apply WO.pl; exact rfl; exact rfl) | (apply WO.pp; exact rfl; exact rfl)
      · exact ⟨.inr rfl, rfl, _, rfl, by rw [he, e, if_pos (by assumption)]; rfl, rfl⟩
      · exact ⟨.inr rfl, rfl, _, rfl, by rw [he, e, if_neg (by omega), if_pos (by assumption)]; rfl, rfl⟩
      · exact LIn ⟨by rw [he, e, if_neg (by omega), if_neg (by omega)], _, _, rfl⟩
    · rw [if_neg hb] at e
      repeat' first | apply W.seq | apply SQn | apply W.region | apply WO.nil | apply W.block | apply W.ret | apply W.skip | apply SQr | apply BQr | apply LIr | (apply W.drawro; exact rfl) | (apply W.condT; exact rfl) | (apply WO.sF; exact rfl) | (apply WO.lss; exact rfl; exact rfl; all_goals first | (intro _; exfalso; omega) | intro _) | (apply WO.geq; exact rfl; exact rfl; all_goals first | (intro _; exfalso; omega) | intro _) | (apply WO.pkT; exact rfl; exact rfl) | (apply WO.pl; exact rfl; exact rfl) | (apply WO.pp; exact rfl; exact rfl)
      exact ⟨.inr rfl, rfl, _, rfl, by rw [he, e]; rfl, rfl⟩
  · subst hs
    unfold b127_0
    repeat' first | apply W.seq | apply SQn | apply W.region | apply WO.nil | apply W.ret | apply W.exit | apply SQe | apply BQe | apply LIe | (apply W.condF; exact rfl) | (apply WO.lss; exact rfl; exact rfl; all_goals first | (intro _; exfalso; omega) | intro _) | (apply WO.pl; exact rfl; exact rfl) | (apply WO.pp; exact rfl; exact rfl)
    exact ⟨.inr rfl, rfl, _, rfl, by rw [he, List.drop_length]; rfl, rfl⟩
def cmpI (x y : Int) : Int := if x < y then -1 else if y < x then 1 else 0
def cmpL : List Int → List Int → Int
  | [], [] => 0
  | [], _ :: _ => -1
  | _ :: _, [] => 1
  | x :: a, y :: b => if cmpI x y ≠ 0 then cmpI x y else cmpL a b
theorem cmpL_gt : ∀ (a b : List Int), (0 < cmpL a b) ↔ lexGt a b = true
  | [], [] => by simp [cmpL, lexGt]
  | [], _ :: _ => by simp [cmpL, lexGt]
  | _ :: _, [] => by simp [cmpL, lexGt]
  | x :: a, y :: b => by
    have ih := cmpL_gt a b
    rw [cmpL, lexGt]
    by_cases h1 : y < x
    · have hc : cmpI x y = 1 := by rw [cmpI, if_neg (by omega), if_pos h1]
      rw [hc, if_pos h1]; simp
    · rw [if_neg h1]
      by_cases h2 : x < y
      · have hc : cmpI x y = -1 := by rw [cmpI, if_pos h2]
        rw [hc, if_pos h2]; simp
      · have hc : cmpI x y = 0 := by rw [cmpI, if_neg h2, if_neg h1]
        rw [hc, if_neg h2]; simpa using ih
theorem w192 (hft : M.FT = FT) (x : Int) : Run M 192 [.int .i64 x] [] ⟨.bool false, [], []⟩ := by
  refine run_of_W (by rw [hft]; exact ft192) (by simp) ?_
  unfold b192
  simp only [List.map_cons, List.map_nil, List.getElem?_cons_zero, List.getElem?_cons_succ, List.getElem?_nil, Option.getD_some, Option.getD_none]
  repeat' first | apply W.seq | apply SQn | apply W.region | apply WO.nil | apply W.ret | (apply WO.neq; exact rfl; exact rfl; all_goals first | (intro _; exfalso; omega) | intro _) | (apply WO.pl; exact rfl; exact rfl) | (apply WO.pp; exact rfl; exact rfl)
  all_goals exact ⟨.inr rfl, rfl, _, rfl, rfl, rfl⟩
theorem w142 (hft : M.FT = FT) (c192 : ∀ x h, M.ext 192 [.int .i64 x] h = some ⟨.bool false, h, []⟩) (x y : Int) : Run M 142 [.int .i64 x, .int .i64 y] [] ⟨.int .i64 (cmpI x y), [], []⟩ := by
  have q := c192
  refine run_of_W (by rw [hft]; exact ft142) (by simp) ?_
  unfold b142
  simp only [List.map_cons, List.map_nil, List.getElem?_cons_zero, List.getElem?_cons_succ, List.getElem?_nil, Option.getD_some, Option.getD_none]
  repeat' first | apply W.seq | apply SQn | apply W.region | apply WO.nil | apply W.ret | apply W.skip | apply SQr | (apply W.condT; exact rfl) | (apply W.condF; exact rfl) | (apply WO.lss; exact rfl; exact rfl; all_goals first | (intro _; exfalso; omega) | intro _) | (apply WO.gtr; exact rfl; exact rfl; all_goals first | (intro _; exfalso; omega) | intro _) | (apply WO.cll; exact rfl; exact rfl; first | exact q _ _) | (apply WO.pl; exact rfl; exact rfl) | (apply WO.pp; exact rfl; exact rfl)
  all_goals first
    | exact ⟨.inr rfl, rfl, _, rfl, by rw [cmpI, if_pos (by omega)]; rfl, rfl⟩
    | exact ⟨.inr rfl, rfl, _, rfl, by rw [cmpI, if_neg (by omega), if_pos (by omega)]; rfl, rfl⟩
    | exact ⟨.inr rfl, rfl, _, rfl, by rw [cmpI, if_neg (by omega), if_neg (by omega)]; rfl, rfl⟩
theorem cmpL_drop {a b : List Int} {i : Nat} (h : i < a.length) : cmpL (a.drop i) (b.drop i) = if i < b.length then (if cmpI a[i]! b[i]! ≠ 0 then cmpI a[i]! b[i]! else cmpL (a.drop (i + 1)) (b.drop (i + 1))) else 1 := by
  rw [List.drop_eq_getElem_cons h, ← getElem!_pos a i h]
  by_cases hb : i < b.length
  · rw [List.drop_eq_getElem_cons hb, ← getElem!_pos b i hb, if_pos hb]; rfl
  · rw [if_neg hb, List.drop_eq_nil_of_le (Nat.le_of_not_lt hb)]; rfl
theorem w139 (hft : M.FT = FT) (c142 : ∀ x y h, M.ext 142 [.int .i64 x, .int .i64 y] h = some ⟨.int .i64 (cmpI x y), h, []⟩) (a b : List Int) (hl : a.length < 1000000) : Run M 139 [.vs (ints a) a.length c1, .vs (ints b) b.length c2] [] ⟨.int .i64 (cmpL a b), [], []⟩ := by
  refine run_of_W (by rw [hft]; exact ft139) (by simp) ?_
  unfold b139
  simp only [List.map_cons, List.map_nil, List.getElem?_cons_zero, List.getElem?_cons_succ, List.getElem?_nil, Option.getD_some, Option.getD_none]
  repeat' first | apply W.seq | apply SQn | apply W.region | apply WO.nil | apply W.block | (apply WO.pp; exact rfl; exact rfl)
  refine W.loopI a.length (fun i s => cmpL a b = cmpL (a.drop i) (b.drop i) ∧ ∃ a2 a3 a4 a5 a6 lo wr, s = ⟨⟨[.vs (ints a) a.length c1, .vs (ints b) b.length c2, a2, a3, a4, a5, a6, .vs (ints a) a.length c1, .int .i64 a.length, .int .i64 i], lo, [], []⟩, wr⟩) (fun i s hi ⟨he, a2, a3, a4, a5, a6, lo, wr, hs⟩ => ?_) (fun s ⟨he, a2, a3, a4, a5, a6, lo, wr, hs⟩ => ?_) (Nat.zero_le _) ⟨rfl, _, _, _, _, _, _, _, rfl⟩
  · subst hs
    have e := cmpL_drop (b := b) hi
    rw [show a[i]! = a[((i : Int)).toNat]! from rfl, show b[i]! = b[((i : Int)).toNat]! from rfl] at e
    have q := fun h => c142 a[((i : Int)).toNat]! b[((i : Int)).toNat]! h
    generalize cmpI a[((i : Int)).toNat]! b[((i : Int)).toNat]! = E at *
    unfold b139_0
    by_cases hb : i < b.length
    · rw [if_pos hb] at e
      by_cases hE : E = 0
      · subst hE
        repeat' first | apply W.seq | apply SQn | apply W.region | apply WO.nil | apply W.block | apply W.skip | apply BQn | (apply W.condT; exact rfl) | (apply W.condF; exact rfl) | (apply WO.lss; exact rfl; exact rfl; all_goals first | (intro _; exfalso; omega) | intro _) | (apply WO.geq; exact rfl; exact rfl; all_goals first | (intro _; exfalso; omega) | intro _) | (apply WO.neq; exact rfl; exact rfl; all_goals first | (intro _; exfalso; omega) | intro _) | (apply WO.add; exact rfl; exact rfl; omega) | (apply WO.cll; exact rfl; exact rfl; first | exact q _) | (apply WO.iav; exact rfl; exact rfl; omega) | (apply WO.lda; exact rfl; exact fun _ => rfl; (first | omega | (simp only [List.length_set]; omega) | (simp; omega)); decide; exact rfl; case ia => infer_instance) | (apply WO.pl; exact rfl; exact rfl) | (apply WO.pp; exact rfl; exact rfl)
        exact LIn ⟨by rw [he, e]; rfl, _, _, _, _, _, _, _, rfl⟩
      · repeat' first | apply W.seq | apply SQn | apply W.region | apply WO.nil | apply W.block | apply W.ret | apply W.skip | apply SQr | apply BQr | apply LIr | (apply W.condT; exact rfl) | (apply W.condF; exact rfl) | (apply WO.lss; exact rfl; exact rfl; all_goals first | (intro _; exfalso; omega) | intro _) | (apply WO.geq; exact rfl; exact rfl; all_goals first | (intro _; exfalso; omega) | intro _) | (apply WO.neq; exact rfl; exact rfl; all_goals first | (intro _; exfalso; omega) | intro _) | (apply WO.cll; exact rfl; exact rfl; first | exact q _) | (apply WO.iav; exact rfl; exact rfl; omega) | (apply WO.lda; exact rfl; exact fun _ => rfl; (first | omega | (simp only [List.length_set]; omega) | (simp; omega)); decide; exact rfl; case ia => infer_instance) | (apply WO.pl; exact rfl; exact rfl) | (apply WO.pp; exact rfl; exact rfl)
        exact ⟨.inr rfl, rfl, _, rfl, by rw [he, e, if_pos hE]; rfl, rfl⟩
    · rw [if_neg hb] at e
      repeat' first | apply W.seq | apply SQn | apply W.region | apply WO.nil | apply W.block | apply W.ret | apply W.skip | apply SQr | apply BQr | apply LIr | (apply W.condT; exact rfl) | (apply WO.lss; exact rfl; exact rfl; all_goals first | (intro _; exfalso; omega) | intro _) | (apply WO.geq; exact rfl; exact rfl; all_goals first | (intro _; exfalso; omega) | intro _) | (apply WO.iav; exact rfl; exact rfl; omega) | (apply WO.lda; exact rfl; exact fun _ => rfl; (first | omega | (simp only [List.length_set]; omega) | (simp; omega)); decide; exact rfl; case ia => infer_instance) | (apply WO.pl; exact rfl; exact rfl) | (apply WO.pp; exact rfl; exact rfl)
      exact ⟨.inr rfl, rfl, _, rfl, by rw [he, e]; rfl, rfl⟩
  · subst hs
    rw [List.drop_length] at he
    unfold b139_0
    by_cases hb : a.length < b.length
    · have : cmpL a b = -1 := by
        rw [he]
        cases hd : b.drop a.length with
        | nil => have := congrArg List.length hd; simp at this; omega
        | cons x r => rfl
      repeat' first | apply W.seq | apply SQn | apply W.region | apply WO.nil | apply W.ret | apply W.exit | apply SQr | apply SQe | apply BQe | apply LIe | (apply W.condT; exact rfl) | (apply W.condF; exact rfl) | (apply WO.lss; exact rfl; exact rfl; all_goals first | (intro _; exfalso; omega) | intro _) | (apply WO.pl; exact rfl; exact rfl) | (apply WO.pp; exact rfl; exact rfl)
      exact ⟨.inr rfl, rfl, _, rfl, by rw [this]; rfl, rfl⟩
    · have : cmpL a b = 0 := by rw [he, List.drop_eq_nil_of_le (by omega)]; rfl
      repeat' first | apply W.seq | apply SQn | apply W.region | apply WO.nil | apply W.ret | apply W.exit | apply W.skip | apply SQe | apply BQe | apply LIe | (apply W.condF; exact rfl) | (apply WO.lss; exact rfl; exact rfl; all_goals first | (intro _; exfalso; omega) | intro _) | (apply WO.pl; exact rfl; exact rfl) | (apply WO.pp; exact rfl; exact rfl)
      exact ⟨.inr rfl, rfl, _, rfl, by rw [this]; rfl, rfl⟩
end Go.Ab.Ch6

/-
  Own work: chapter 6: series and ranks by the reference.
-/
namespace Go.Ab.Ch6
variable {M : Mach} {cap c1 c2 : Option Nat}
theorem loop78_0 (a0 a1 a2 a4 : AV) (out : List Int) (x : Int) (o : AV) (K : Heap) (S : List Nat) (ho : OutE inC 1 3 K o out S) (hl : out.length < 1000000) {Q : Ex → StW → Prop} (lo : List (Nat × AV)) (wr : List Nat)
    (hQ : ∀ (k : Nat) lo wr, k ≤ out.length → (k = 0 ∨ x ≤ out[k - 1]!) → (k < out.length → out[k]! < x) → Q (.exit 2) ⟨⟨[a0, a1, a2, o, a4, .int .i64 x, .int .i64 k], lo, K, []⟩, wr⟩) :
    W M (.loop b78_0) ⟨⟨[a0, a1, a2, o, a4, .int .i64 x, .int .i64 out.length], lo, K, []⟩, wr⟩ Q := by
  refine W.loopM (fun k s => k ≤ out.length ∧ (k < out.length → out[k]! < x) ∧ ∃ lo wr, s = ⟨⟨[a0, a1, a2, o, a4, .int .i64 x, .int .i64 k], lo, K, []⟩, wr⟩) (fun k s ⟨hk, hx, lo, wr, hs⟩ => ?_) ⟨Nat.le_refl _, fun h => absurd h (Nat.lt_irrefl _), _, _, rfl⟩
  subst hs
  unfold b78_0
  rcases Nat.eq_zero_or_pos k with rfl | h0
  · repeat' first | apply W.seq | apply SQn | apply W.region | apply WO.nil | apply W.exit | apply SQe | apply LIe | (apply W.condF; exact rfl) | (apply WO.sT; exact rfl) | (apply WO.gtr; exact rfl; exact rfl; all_goals first | (intro _; exfalso; omega) | intro _) | (apply WO.pkF; exact rfl; exact rfl) | (apply WO.pl; exact rfl; exact rfl)
    exact hQ 0 _ _ hk (.inl rfl) hx
  · rcases ho with ⟨rfl, rfl⟩ | ⟨c, cap, hc, rfl, hat, _⟩
    · simp at hk; omega
    · have e : ((k : Int) - 1).toNat = k - 1 := by omega
      repeat' first | apply W.seq | apply SQn | apply W.region | apply WO.nil | apply W.block | apply W.exit | apply W.skip | apply SQe | apply BQn | apply LIe | (apply W.condT; exact rfl) | (apply W.condF; exact rfl) | (apply WO.gT; exact rfl) | (apply WO.lss; exact rfl; exact rfl; all_goals first | (intro _; exfalso; omega) | intro _) | (apply WO.gtr; exact rfl; exact rfl; all_goals first | (intro _; exfalso; omega) | intro _) | (apply WO.pkT; exact rfl; exact rfl) | (apply WO.sub; exact rfl; exact rfl; omega) | (apply WO.ias; exact rfl; exact rfl; omega) | (apply WO.lsa; exact rfl; (first | exact rfl | assumption | exact at_new | (apply at_old; assumption) | (apply at_put; first | assumption | (simp only [put_length]; assumption))); exact fun _ => rfl; (first | omega | (simp only [List.length_set]; omega) | (simp; omega)); decide; exact rfl; case ia => infer_instance) | (apply WO.pl; exact rfl; exact rfl) | (apply WO.pp; exact rfl; exact rfl)
      · rename_i h
        rw [e] at h
        exact LIn ⟨k - 1, by omega, by omega, fun _ => h, _, _, by rw [show ((k - 1 : Nat) : Int) = (k : Int) - 1 by omega]; rfl⟩
      · rename_i h
        rw [e] at h
        exact hQ k _ _ hk (.inr h) hx
theorem serF_drop {out l : List Int} {i : Nat} (h : i < l.length) : serF out (l.drop i) = serF (if l[i]! < 0 then out else insD l[i]! out) (l.drop (i + 1)) := by
  rw [List.drop_eq_getElem_cons h, serF, getElem!_pos l i h]
set_option maxHeartbeats 1000000 in
theorem w78 (hft : M.FT = FT) (r : Row) (hl : r.tr.length < 1000000) : ∃ v hh, FrN hh v (.vs (ints (serL r.tr)) (serL r.tr).length none) ∧ Run M 78 [.agg (rowC r)] [] ⟨v, hh, []⟩ := by
  refine run_ofE (P := fun v hh => FrN hh v (.vs (ints (serL r.tr)) (serL r.tr).length none)) (by rw [hft]; exact ft78) (by simp) ?_
  unfold b78
  simp only [List.map_cons, List.map_nil, List.getElem?_cons_zero, List.getElem?_cons_succ, List.getElem?_nil, Option.getD_some, Option.getD_none]
  repeat' first | apply W.seq | apply SQn | apply W.region | apply WO.nil | apply W.block | (apply WO.hpv; exact rfl; exact rfl; exact rfl) | (apply WO.pp; exact rfl; exact rfl)
  refine W.loopI r.tr.length (fun i s => ∃ out, serL r.tr = serF out (r.tr.drop i) ∧ Desc out ∧ out.length ≤ i ∧ ∃ o a5 a6 lo K wr, s = ⟨⟨[.agg (rowC r), .ptr 0 0, .nilsl, o, .int .i64 i, a5, a6], lo, K, []⟩, wr⟩ ∧ OutE inC 1 3 K o out [0] ∧ K.at 0 = some (.cells (rowC r) 145)) (fun i s hi ⟨out, he, hd, hol, o, a5, a6, lo, K, wr, hs, ho, hK⟩ => ?_) (fun s ⟨out, he, hd, hol, o, a5, a6, lo, K, wr, hs, ho, hK⟩ => ?_) (Nat.zero_le _) ⟨[], rfl, List.Pairwise.nil, Nat.le_refl _, _, _, _, _, _, _, rfl, .ofNil, rfl⟩
  · subst hs
    have e := serF_drop (out := out) hi
    rw [show r.tr[i]! = r.tr[((i : Int)).toNat]! from rfl] at e
    have hK0 := at_lt hK
    have hlo := ho.lt
    have hno := ho.notin
    have hlen : ∀ hq : True, ∃ n : Nat, lenA .sl o = some (.int .i64 n) ∧ n = out.length := fun _ => by
      rcases ho with ⟨rfl, rfl⟩ | ⟨c, cap, hc, rfl, hat, _⟩
      · exact ⟨0, rfl, rfl⟩
      · exact ⟨_, rfl, rfl⟩
    obtain ⟨n, hn, rfl⟩ := hlen trivial
    unfold b78_1
    by_cases hx : r.tr[((i : Int)).toNat]! < 0
    · rw [if_pos hx] at e
      repeat' first | apply W.seq | apply SQn | apply W.region | apply WO.nil | apply W.block | apply W.exit | apply W.skip | apply SQe | apply BQe | (apply W.condT; exact rfl) | (apply WO.lss; exact rfl; exact rfl; all_goals first | (intro _; exfalso; omega) | intro _) | (apply WO.add; exact rfl; exact rfl; omega) | (apply WO.ldK; exact rfl; exact hK; exact rfl) | (apply WO.iav; exact rfl; exact rfl; omega) | (apply WO.lda; exact rfl; exact fun _ => rfl; (first | omega | (simp only [List.length_set]; omega) | (simp; omega)); decide; exact rfl; case ia => infer_instance) | (apply WO.pl; exact rfl; exact rfl) | (apply WO.pp; exact rfl; exact rfl)
      exact LIn ⟨out, he.trans e, hd, by omega, _, _, _, _, _, _, rfl, ho, hK⟩
    · rw [if_neg hx] at e
      repeat' first | apply W.seq | apply SQn | apply W.region | apply WO.nil | apply W.block | apply W.skip | (apply W.condT; exact rfl) | (apply W.condF; exact rfl) | (apply WO.lss; exact rfl; exact rfl; all_goals first | (intro _; exfalso; omega) | intro _) | (apply WO.ldK; exact rfl; exact hK; exact rfl) | (apply WO.pl (v := .int .i64 out.length); exact hn; exact rfl) | (apply WO.iav; exact rfl; exact rfl; omega) | (apply WO.lda; exact rfl; exact fun _ => rfl; (first | omega | (simp only [List.length_set]; omega) | (simp; omega)); decide; exact rfl; case ia => infer_instance) | (apply WO.pl; exact rfl; exact rfl) | (apply WO.pp; exact rfl; exact rfl)
      refine loop78_0 _ _ _ _ out _ o K [0] ho (by omega) _ _ (fun k lo wr hk h1 h2 => ?_)
      have ei := insD_at hd hk h1 h2
      generalize r.tr[((i : Int)).toNat]! = x at *
      have hS : ∀ y ∈ 0 :: blkE o, y < K.length := fun y hy => by
        rcases List.mem_cons.1 hy with rfl | hy
        · exact hK0
        · exact hlo y hy
      repeat' first | apply SQn | apply WO.nil | apply BQe | apply W.draw | (apply WD.pure1; exact rfl) | (apply WD.new1; exact rfl) | (apply WO.hlv; exact rfl; exact rfl; exact rfl) | (apply WO.pl; exact rfl; exact rfl)
      refine OutE.beg (f := inC) (e := 3) (S := [0]) (fun _ => rfl) (ho.grow [_]) rfl rfl (by omega) (fun v hv => ?_)
      repeat' first | apply WO.nil | (apply WD.app; exact rfl; exact rfl; intro _)
      refine OutE.app (f := inC) (m := out.take k) (S := 0 :: blkE o) (fun _ => rfl) (fun _ => rfl) (by decide) (OutE.new' hS) (fun y hy => by have := hS y hy; simp; omega) rfl rfl (hv _ (fun _ _ _ h => h)) (by rw [List.length_take]; unfold roomLimit; simp; omega) (fun H1 w1 o1 ho1 hk1 hl1 => ?_)
      repeat' first | apply WO.nil | (apply WD.pure1; exact rfl) | (apply WD.new1; exact rfl) | (apply WD.app; exact rfl; exact rfl; intro _) | (apply WO.hlv; exact rfl; exact rfl; exact rfl) | (apply WO.pl; exact rfl; exact rfl)
      refine OutE.app (f := inC) (m := [x]) (S := 0 :: blkE o) (fun _ => rfl) (fun _ => rfl) (by decide) (ho1.grow [_]) (fun y hy => by have := hS y hy; simp at hl1 ⊢; omega) rfl rfl (Sl.ofAt (f := inC) (esz := 1) (l := [x]) (e := 3) (fun _ => rfl) at_new rfl) (by simp only [List.nil_append, List.length_take]; unfold roomLimit; simp; omega) (fun H2 w2 o2 ho2 hk2 hl2 => ?_)
      have hk02 : ∀ y z, y ∈ 0 :: blkE o → K.at y = some z → H2.at y = some z := fun y z hy h => hk2 y z hy (at_old (hk1 y z hy (at_old h)))
      repeat' first | apply WO.nil | (apply WD.pure1; exact rfl) | (apply WO.pl; exact rfl; exact rfl)
      refine OutE.tail (f := inC) (e := 3) (S := [0]) (fun _ => rfl) (ho.keep (fun b z hb hz => hk02 b z (List.mem_cons_of_mem _ hb) hz) (fun _ _ h => h)) rfl rfl (by omega) (fun v' hv' => ?_)
      repeat' first | apply WO.nil | (apply WD.app; exact rfl; exact rfl; intro _)
      refine OutE.app (f := inC) (m := out.drop k) (S := 0 :: blkE o) (fun _ => rfl) (fun _ => rfl) (by decide) ho2 (fun y hy => by have := hS y hy; simp at hl1 hl2; omega) rfl rfl (hv' _ (fun _ _ _ h => h)) (by simp only [List.nil_append, List.length_append, List.length_take, List.length_drop, List.length_singleton]; unfold roomLimit; omega) (fun H3 w3 o3 ho3 hk3 hl3 => ?_)
      repeat' first | apply SQn | apply W.region | apply WO.nil | apply BQn | apply WD.nil | (apply WD.pure1; exact rfl) | (apply WO.add; exact rfl; exact rfl; omega) | (apply WO.pl; exact rfl; exact rfl) | (apply WO.pp; exact rfl; exact rfl)
      have eo : [] ++ out.take k ++ [x] ++ out.drop k = insD x out := by rw [ei]; simp
      rw [eo] at ho3
      exact LIn ⟨insD x out, he.trans e, insD_desc hd, by rw [insD_length]; omega, _, _, _, _, _, _, rfl, ho3.keep (fun _ _ _ h => h) (fun b hb hn hb0 => hn (by rw [List.mem_singleton.1 hb0]; exact List.mem_cons_self)), hk3 _ _ List.mem_cons_self (hk02 _ _ List.mem_cons_self hK)⟩
  · subst hs
    rw [List.drop_length, serF] at he
    unfold b78_1
    repeat' first | apply W.seq | apply SQn | apply W.region | apply WO.nil | apply W.ret | apply W.exit | apply SQe | apply BQe | apply LIe | (apply W.condF; exact rfl) | (apply WO.lss; exact rfl; exact rfl; all_goals first | (intro _; exfalso; omega) | intro _) | (apply WO.ldK; exact rfl; exact hK; exact rfl) | (apply WO.pl; exact rfl; exact rfl) | (apply WO.pp; exact rfl; exact rfl)
    refine ⟨.inr rfl, rfl, _, rfl, ?_⟩
    rw [he]
    exact ho.finN (fun _ => rfl) (fun _ => rfl) (fun _ => rfl)
end Go.Ab.Ch6

/-
  Own work: slices.SortStableFunc over ints: what it computes, at a comparison that reads nothing of the row.
-/
namespace Go.Ab.Ch6
open Go.Ab.Sort
variable {M : Mach} {h : Heap} {b n : Nat} {cap : Option Nat} {g : AV}
def swapR : Nat → Nat → Nat → List Int → List Int
  | 0, _, _, l => l
  | r + 1, a, c, l => swapR r (a + 1) (c + 1) ((l.set a l[c]!).set c l[a]!)
theorem swapR_app : ∀ (X A Mid Y B : List Int), X.length = Y.length → swapR X.length A.length (A.length + X.length + Mid.length) (A ++ X ++ Mid ++ Y ++ B) = A ++ Y ++ Mid ++ X ++ B
  | [], A, Mid, Y, B, h => by
    obtain rfl : Y = [] := List.length_eq_zero_iff.1 h.symm
    simp [swapR]
  | x :: X, A, Mid, [], B, h => by simp at h
  | x :: X, A, Mid, y :: Y, B, h => by
    have ih := swapR_app X (A ++ [y]) (Mid ++ [x]) Y B (by simpa using h)
    have e1 : (A ++ (x :: X) ++ Mid ++ (y :: Y) ++ B)[A.length + (x :: X).length + Mid.length]! = y := by
      rw [show A ++ (x :: X) ++ Mid ++ (y :: Y) ++ B = (A ++ (x :: X) ++ Mid) ++ y :: (Y ++ B) by simp]
      rw [List.getElem!_eq_getElem?_getD, List.getElem?_append_right (by simp; omega)]
      rw [show A.length + (x :: X).length + Mid.length - (A ++ (x :: X) ++ Mid).length = 0 by simp; omega]
      rfl
    have e2 : (A ++ (x :: X) ++ Mid ++ (y :: Y) ++ B)[A.length]! = x := by
      rw [show A ++ (x :: X) ++ Mid ++ (y :: Y) ++ B = A ++ x :: (X ++ Mid ++ (y :: Y) ++ B) by simp]
      rw [List.getElem!_eq_getElem?_getD, List.getElem?_append_right (Nat.le_refl _), Nat.sub_self]
      rfl
    have e3 : ((A ++ (x :: X) ++ Mid ++ (y :: Y) ++ B).set A.length y).set (A.length + (x :: X).length + Mid.length) x = A ++ [y] ++ X ++ (Mid ++ [x]) ++ Y ++ B := by
      rw [show A ++ (x :: X) ++ Mid ++ (y :: Y) ++ B = A ++ x :: (X ++ Mid ++ (y :: Y) ++ B) by simp]
      rw [List.set_append_right _ _ (Nat.le_refl _), Nat.sub_self, List.set_cons_zero]
      rw [show A ++ y :: (X ++ Mid ++ (y :: Y) ++ B) = (A ++ y :: (X ++ Mid)) ++ y :: (Y ++ B) by simp]
      rw [List.set_append_right _ _ (by simp; omega), show A.length + (x :: X).length + Mid.length - (A ++ y :: (X ++ Mid)).length = 0 by simp; omega, List.set_cons_zero]
      simp
    rw [List.length_cons, swapR, ← (@List.length_cons _ x X), e1, e2, e3]
    rw [show A.length + 1 = (A ++ [y]).length by simp, show A.length + (x :: X).length + Mid.length + 1 = (A ++ [y]).length + X.length + (Mid ++ [x]).length by simp; omega, ih]
    simp
abbrev fn (k : Nat) : AV := .fn (.func k) [] []
theorem ct_of_run {k : Nat} {ars : List AV} {hp : Heap} {r : HR} (he : ∀ ars h, M.ext k ars h = none) (hr : Run M k ars hp r) : CT M (fn k) ars hp r := CT.run (he _ _) (by simpa using hr)
theorem get_at {A B : List Int} {x : Int} {i : Nat} (hi : i = A.length) : (A ++ x :: B)[i]! = x := by
  subst hi
  rw [List.getElem!_eq_getElem?_getD, List.getElem?_append_right (Nat.le_refl _), Nat.sub_self]
  rfl
theorem swap_down {A B : List Int} {x y : Int} {j : Nat} (hj : j = A.length) : ((A ++ y :: x :: B).set (j + 1) y).set j x = A ++ x :: y :: B := by
  subst hj
  rw [show A ++ y :: x :: B = (A ++ [y]) ++ x :: B by simp, List.set_append_right _ _ (by simp), show A.length + 1 - (A ++ [y]).length = 0 by simp, List.set_cons_zero]
  rw [show (A ++ [y]) ++ y :: B = A ++ y :: y :: B by simp, List.set_append_right _ _ (Nat.le_refl _), Nat.sub_self, List.set_cons_zero]
theorem swap_up {A B : List Int} {x y : Int} {j : Nat} (hj : j = A.length) : ((A ++ x :: y :: B).set j y).set (j + 1) x = A ++ y :: x :: B := by
  subst hj
  rw [List.set_append_right _ _ (Nat.le_refl _), Nat.sub_self, List.set_cons_zero]
  rw [show A ++ y :: y :: B = (A ++ [y]) ++ y :: B by simp, List.set_append_right _ _ (by simp), show A.length + 1 - (A ++ [y]).length = 0 by simp, List.set_cons_zero]
  simp
variable {key : Int → Int} {ok : Int → Prop} {cf : Int → Int → Int}
end Go.Ab.Ch6

/-
  Own work: slices.SortStableFunc over ints: the merge in place.
-/
namespace Go.Ab.Ch6
open Go.Ab.Sort
variable {M : Mach} {h : Heap} {b n : Nat} {cap : Option Nat} {g : AV}
variable {key : Int → Int} {ok : Int → Prop} {cf : Int → Int → Int}
theorem getD_mem {l : List Int} {i : Nat} (h : i < l.length) : l[i]! ∈ l := by
  rw [getElem!_pos l i h]; exact List.getElem_mem h
theorem atL {A L R B : List Int} {i : Nat} (h : i < L.length) : (A ++ L ++ R ++ B)[A.length + i]! = L[i]! := by
  rw [List.getElem!_eq_getElem?_getD, List.getElem!_eq_getElem?_getD, List.append_assoc, List.append_assoc, List.getElem?_append_right (by omega), Nat.add_sub_cancel_left, List.getElem?_append_left h]
theorem atR {A L R B : List Int} {i : Nat} (h : i < R.length) : (A ++ L ++ R ++ B)[A.length + L.length + i]! = R[i]! := by
  rw [List.getElem!_eq_getElem?_getD, List.getElem!_eq_getElem?_getD, List.append_assoc, List.getElem?_append_right (by simp), List.length_append, Nat.add_sub_cancel_left, List.getElem?_append_left h]
theorem sd_get {l : List Int} (h : Sd key l) {i j : Nat} (hij : i < j) (hj : j < l.length) : Lt key l[i]! l[j]! := by
  rw [getElem!_pos l i (by omega), getElem!_pos l j hj]
  exact h.get (List.getElem?_eq_getElem (by omega)) (List.getElem?_eq_getElem hj) hij
end Go.Ab.Ch6

/-
  Own work: slices.SortStableFunc over ints: the merge in place, whole.
-/
namespace Go.Ab.Ch6
open Go.Ab.Sort
variable {M : Mach} {h : Heap} {b n : Nat} {cap : Option Nat} {g : AV}
variable {key : Int → Int} {ok : Int → Prop} {cf : Int → Int → Int}
end Go.Ab.Ch6

/-
  Own work: slices.SortStableFunc over ints: the merge in place, by induction.
-/
namespace Go.Ab.Ch6
open Go.Ab.Sort
variable {M : Mach} {h : Heap} {b n : Nat} {cap : Option Nat} {g : AV}
variable {key : Int → Int} {ok : Int → Prop} {cf : Int → Int → Int}
theorem take_get {R : List Int} {k : Nat} {y : Int} (h : R[k]? = some y) : R[k]! = y := by
  rw [List.getElem!_eq_getElem?_getD, h]; rfl
theorem _root_.Go.Ab.Sort.Sd.split {L : List Int} {i : Nat} (h : Sd key L) : Sd key (L.take i) ∧ Sd key (L.drop i) := by
  have h' : Sd key (L.take i ++ L.drop i) := by rw [List.take_append_drop]; exact h
  exact ⟨h'.left, h'.right⟩
end Go.Ab.Ch6

/-
  Own work: slices.SortStableFunc over ints: blocks and merges, whole.
-/
namespace Go.Ab.Ch6
open Go.Ab.Sort
variable {M : Mach} {h : Heap} {b n : Nat} {cap : Option Nat} {g : AV}
variable {key : Int → Int} {ok : Int → Prop} {cf : Int → Int → Int}
end Go.Ab.Ch6

/-
  Own work: the code of slices.SortFunc over ints.
-/
namespace Go.Ab.Ch6
set_option maxRecDepth 1000000
def b250_0 : ICode := .block 1 (.seq (.region [⟨.l 21, .mv (.p 2), none⟩, ⟨.l 22, .mv (.p 1), none⟩, ⟨.l 23, .bin .sub (.l 21) (.l 22), none⟩, ⟨.p 7, .mv (.l 23), none⟩]) (.seq (.seq (.region [⟨.l 24, .mv (.p 7), none⟩, ⟨.l 25, .bin .leq (.l 24) (.c (.int .i64 (12))), none⟩]) (.cond (.l 25) (.seq (.region [⟨.l 26, .mv (.p 0), none⟩, ⟨.l 27, .mv (.p 1), none⟩, ⟨.l 28, .mv (.p 2), none⟩, ⟨.l 29, .mv (.p 4), none⟩, ⟨.l 30, .call (.c (.fn (.func 227) [] [])) [(.l 26), (.l 27), (.l 28), (.l 29)], none⟩]) (.ret)) (.skip))) (.seq (.seq (.region [⟨.l 31, .mv (.p 3), none⟩, ⟨.l 32, .bin .eql (.l 31) (.c (.int .i64 (0))), none⟩]) (.cond (.l 32) (.seq (.region [⟨.l 33, .mv (.p 0), none⟩, ⟨.l 34, .mv (.p 1), none⟩, ⟨.l 35, .mv (.p 2), none⟩, ⟨.l 36, .mv (.p 4), none⟩, ⟨.l 37, .call (.c (.fn (.func 274) [] [])) [(.l 33), (.l 34), (.l 35), (.l 36)], none⟩]) (.ret)) (.skip))) (.seq (.seq (.region [⟨.l 38, .mv (.p 5), none⟩, ⟨.l 39, .un .not (.l 38), none⟩]) (.cond (.l 39) (.seq (.region [⟨.l 40, .mv (.p 0), none⟩, ⟨.l 41, .mv (.p 1), none⟩, ⟨.l 42, .mv (.p 2), none⟩, ⟨.l 43, .mv (.p 4), none⟩, ⟨.l 44, .call (.c (.fn (.func 275) [] [])) [(.l 40), (.l 41), (.l 42), (.l 43)], none⟩]) (.region [⟨.l 45, .mv (.p 3), none⟩, ⟨.l 46, .bin .sub (.l 45) (.c (.int .i64 (1))), none⟩, ⟨.p 3, .mv (.l 46), none⟩])) (.skip))) (.seq (.region [⟨.l 48, .mv (.p 0), none⟩, ⟨.l 49, .mv (.p 1), none⟩, ⟨.l 50, .mv (.p 2), none⟩, ⟨.l 51, .mv (.p 4), none⟩, ⟨.l 52, .call (.c (.fn (.func 276) [] [])) [(.l 48), (.l 49), (.l 50), (.l 51)], none⟩, ⟨.l 47, .mv (.l 52), none⟩, ⟨.l 53, .extract 0 (.l 47), none⟩, ⟨.l 54, .extract 1 (.l 47), none⟩, ⟨.p 8, .mv (.l 53), none⟩, ⟨.p 9, .mv (.l 54), none⟩]) (.seq (.seq (.region [⟨.l 55, .mv (.p 9), none⟩, ⟨.l 56, .bin .eql (.l 55) (.c (.int .i64 (2))), none⟩]) (.cond (.l 56) (.seq (.region [⟨.l 57, .mv (.p 0), none⟩, ⟨.l 58, .mv (.p 1), none⟩, ⟨.l 59, .mv (.p 2), none⟩, ⟨.l 60, .mv (.p 4), none⟩, ⟨.l 61, .call (.c (.fn (.func 277) [] [])) [(.l 57), (.l 58), (.l 59), (.l 60)], none⟩]) (.seq (.region [⟨.l 62, .mv (.p 2), none⟩, ⟨.l 63, .bin .sub (.l 62) (.c (.int .i64 (1))), none⟩, ⟨.l 64, .mv (.p 8), none⟩, ⟨.l 65, .mv (.p 1), none⟩, ⟨.l 66, .bin .sub (.l 64) (.l 65), none⟩, ⟨.l 67, .bin .sub (.l 63) (.l 66), none⟩, ⟨.p 8, .mv (.l 67), none⟩]) (.region [⟨.p 9, .mv (.c (.int .i64 (1))), none⟩]))) (.skip))) (.seq (.seq (.region [⟨.l 68, .mv (.p 5), none⟩, ⟨.l 69, .mv (.l 68), none⟩, ⟨.l 70, .mv (.p 6), some ((.l 69), true)⟩, ⟨.l 71, .pick (.l 69) (.l 70) (.c (.bool false)), none⟩, ⟨.l 72, .mv (.l 71), none⟩, ⟨.l 73, .mv (.p 9), some ((.l 72), true)⟩, ⟨.l 74, .bin .eql (.l 73) (.c (.int .i64 (1))), some ((.l 72), true)⟩, ⟨.l 75, .pick (.l 72) (.l 74) (.c (.bool false)), none⟩]) (.cond (.l 75) (.seq (.region [⟨.l 76, .mv (.p 0), none⟩, ⟨.l 77, .mv (.p 1), none⟩, ⟨.l 78, .mv (.p 2), none⟩, ⟨.l 79, .mv (.p 4), none⟩, ⟨.l 80, .call (.c (.fn (.func 278) [] [])) [(.l 76), (.l 77), (.l 78), (.l 79)], none⟩]) (.cond (.l 80) (.ret) (.skip))) (.skip))) (.seq (.seq (.draw [(⟨.l 81, .mv (.p 1), none⟩, []), (⟨.l 82, .bin .gtr (.l 81) (.c (.int .i64 (0))), none⟩, []), (⟨.l 83, .mv (.l 82), none⟩, []), (⟨.l 84, .mv (.p 4), some ((.l 83), true)⟩, []), (⟨.l 85, .mv (.p 0), some ((.l 83), true)⟩, [3]), (⟨.l 86, .mv (.p 1), some ((.l 83), true)⟩, [3, 4]), (⟨.l 87, .bin .sub (.l 86) (.c (.int .i64 (1))), some ((.l 83), true)⟩, [3, 4]), (⟨.l 88, .iaddr none 1 (.l 85) (.l 87), some ((.l 83), true)⟩, [3]), (⟨.l 89, .load 1 false (.l 88), some ((.l 83), true)⟩, [3]), (⟨.l 90, .mv (.p 0), some ((.l 83), true)⟩, [3, 4, 5, 6, 7, 8]), (⟨.l 91, .mv (.p 8), some ((.l 83), true)⟩, [3, 4, 5, 6, 7, 8, 9]), (⟨.l 92, .iaddr none 1 (.l 90) (.l 91), some ((.l 83), true)⟩, [3, 4, 5, 6, 7, 8]), (⟨.l 93, .load 1 false (.l 92), some ((.l 83), true)⟩, [3, 4, 5, 6, 7, 8]), (⟨.l 94, .call (.l 84) [(.l 89), (.l 93)], some ((.l 83), true)⟩, []), (⟨.l 95, .bin .lss (.l 94) (.c (.int .i64 (0))), some ((.l 83), true)⟩, []), (⟨.l 96, .un .not (.l 95), some ((.l 83), true)⟩, []), (⟨.l 97, .pick (.l 83) (.l 96) (.c (.bool false)), none⟩, [])]) (.cond (.l 97) (.seq (.region [⟨.l 98, .mv (.p 0), none⟩, ⟨.l 99, .mv (.p 1), none⟩, ⟨.l 100, .mv (.p 2), none⟩, ⟨.l 101, .mv (.p 8), none⟩, ⟨.l 102, .mv (.p 4), none⟩, ⟨.l 103, .call (.c (.fn (.func 279) [] [])) [(.l 98), (.l 99), (.l 100), (.l 101), (.l 102)], none⟩, ⟨.p 10, .mv (.l 103), none⟩]) (.seq (.region [⟨.l 104, .mv (.p 10), none⟩, ⟨.p 1, .mv (.l 104), none⟩]) (.exit 1))) (.skip))) (.seq (.region [⟨.l 106, .mv (.p 0), none⟩, ⟨.l 107, .mv (.p 1), none⟩, ⟨.l 108, .mv (.p 2), none⟩, ⟨.l 109, .mv (.p 8), none⟩, ⟨.l 110, .mv (.p 4), none⟩, ⟨.l 111, .call (.c (.fn (.func 280) [] [])) [(.l 106), (.l 107), (.l 108), (.l 109), (.l 110)], none⟩, ⟨.l 105, .mv (.l 111), none⟩, ⟨.l 112, .extract 0 (.l 105), none⟩, ⟨.l 113, .extract 1 (.l 105), none⟩, ⟨.p 11, .mv (.l 112), none⟩, ⟨.p 12, .mv (.l 113), none⟩]) (.seq (.region [⟨.l 114, .mv (.p 12), none⟩, ⟨.p 6, .mv (.l 114), none⟩]) (.seq (.region [⟨.l 115, .mv (.p 11), none⟩, ⟨.l 116, .mv (.p 1), none⟩, ⟨.l 117, .bin .sub (.l 115) (.l 116), none⟩, ⟨.l 118, .mv (.p 2), none⟩, ⟨.l 119, .mv (.p 11), none⟩, ⟨.l 120, .bin .sub (.l 118) (.l 119), none⟩, ⟨.p 13, .mv (.l 117), none⟩, ⟨.p 14, .mv (.l 120), none⟩]) (.seq (.region [⟨.l 121, .mv (.p 7), none⟩, ⟨.l 122, .bin .quo (.l 121) (.c (.int .i64 (8))), none⟩, ⟨.p 15, .mv (.l 122), none⟩]) (.seq (.region [⟨.l 123, .mv (.p 13), none⟩, ⟨.l 124, .mv (.p 14), none⟩, ⟨.l 125, .bin .lss (.l 123) (.l 124), none⟩]) (.cond (.l 125) (.seq (.region [⟨.l 126, .mv (.p 13), none⟩, ⟨.l 127, .mv (.p 15), none⟩, ⟨.l 128, .bin .geq (.l 126) (.l 127), none⟩, ⟨.p 5, .mv (.l 128), none⟩]) (.seq (.region [⟨.l 129, .mv (.p 0), none⟩, ⟨.l 130, .mv (.p 1), none⟩, ⟨.l 131, .mv (.p 11), none⟩, ⟨.l 132, .mv (.p 3), none⟩, ⟨.l 133, .mv (.p 4), none⟩, ⟨.l 134, .call (.c (.fn (.func 250) [] [])) [(.l 129), (.l 130), (.l 131), (.l 132), (.l 133)], none⟩]) (.region [⟨.l 135, .mv (.p 11), none⟩, ⟨.l 136, .bin .add (.l 135) (.c (.int .i64 (1))), none⟩, ⟨.p 1, .mv (.l 136), none⟩]))) (.seq (.region [⟨.l 137, .mv (.p 14), none⟩, ⟨.l 138, .mv (.p 15), none⟩, ⟨.l 139, .bin .geq (.l 137) (.l 138), none⟩, ⟨.p 5, .mv (.l 139), none⟩]) (.seq (.region [⟨.l 140, .mv (.p 0), none⟩, ⟨.l 141, .mv (.p 11), none⟩, ⟨.l 142, .bin .add (.l 141) (.c (.int .i64 (1))), none⟩, ⟨.l 143, .mv (.p 2), none⟩, ⟨.l 144, .mv (.p 3), none⟩, ⟨.l 145, .mv (.p 4), none⟩, ⟨.l 146, .call (.c (.fn (.func 250) [] [])) [(.l 140), (.l 142), (.l 143), (.l 144), (.l 145)], none⟩]) (.region [⟨.l 147, .mv (.p 11), none⟩, ⟨.p 2, .mv (.l 147), none⟩])))))))))))))))))
def b250 : ICode := .seq (.region [⟨.p 5, .mv (.c (.bool true)), none⟩]) (.seq (.region [⟨.p 6, .mv (.c (.bool true)), none⟩]) (.block 0 (.loop b250_0)))
theorem ft250 : FT 250 = some ⟨148, [0, 1, 2, 3, 4, 10, 11, 12, 13, 14, 15, 16, 17, 18, 19, 20], [], b250⟩ := by kernel_rfl
def b251 : ICode := .seq (.region [⟨.p 1, .mv (.c (.int .i64 (0))), none⟩]) (.seq (.cond (.c (.bool false)) (.seq (.region [⟨.l 3, .mv (.p 0), none⟩, ⟨.l 4, .convInt .u32 (.l 3), none⟩, ⟨.l 5, .call (.c (.fn (.func 281) [] [])) [(.l 4)], none⟩, ⟨.p 1, .mv (.l 5), none⟩]) (.ret)) (.skip)) (.seq (.region [⟨.l 6, .mv (.p 0), none⟩, ⟨.l 7, .call (.c (.fn (.func 282) [] [])) [(.l 6)], none⟩, ⟨.p 1, .mv (.l 7), none⟩]) (.ret)))
theorem ft251 : FT 251 = some ⟨8, [0, 2], [.var (.p 1)], b251⟩ := by kernel_rfl
def b282 : ICode := .seq (.region [⟨.p 1, .mv (.c (.int .i64 (0))), none⟩]) (.seq (.seq (.region [⟨.l 3, .mv (.p 0), none⟩, ⟨.l 4, .bin .geq (.l 3) (.c (.int .u64 (4294967296))), none⟩]) (.cond (.l 4) (.seq (.region [⟨.l 5, .mv (.p 0), none⟩, ⟨.l 6, .bin .shr (.l 5) (.c (.int .u64 (32))), none⟩, ⟨.p 0, .mv (.l 6), none⟩]) (.region [⟨.p 1, .mv (.c (.int .i64 (32))), none⟩])) (.skip))) (.seq (.seq (.region [⟨.l 7, .mv (.p 0), none⟩, ⟨.l 8, .bin .geq (.l 7) (.c (.int .u64 (65536))), none⟩]) (.cond (.l 8) (.seq (.region [⟨.l 9, .mv (.p 0), none⟩, ⟨.l 10, .bin .shr (.l 9) (.c (.int .u64 (16))), none⟩, ⟨.p 0, .mv (.l 10), none⟩]) (.region [⟨.l 11, .mv (.p 1), none⟩, ⟨.l 12, .bin .add (.l 11) (.c (.int .i64 (16))), none⟩, ⟨.p 1, .mv (.l 12), none⟩])) (.skip))) (.seq (.seq (.region [⟨.l 13, .mv (.p 0), none⟩, ⟨.l 14, .bin .geq (.l 13) (.c (.int .u64 (256))), none⟩]) (.cond (.l 14) (.seq (.region [⟨.l 15, .mv (.p 0), none⟩, ⟨.l 16, .bin .shr (.l 15) (.c (.int .u64 (8))), none⟩, ⟨.p 0, .mv (.l 16), none⟩]) (.region [⟨.l 17, .mv (.p 1), none⟩, ⟨.l 18, .bin .add (.l 17) (.c (.int .i64 (8))), none⟩, ⟨.p 1, .mv (.l 18), none⟩])) (.skip))) (.seq (.region [⟨.l 19, .mv (.p 1), none⟩, ⟨.l 20, .mv (.p 0), none⟩, ⟨.l 21, .convInt .u8 (.l 20), none⟩, ⟨.l 22, .index (.c (.str [0, 1, 2, 2, 3, 3, 3, 3, 4, 4, 4, 4, 4, 4, 4, 4, 5, 5, 5, 5, 5, 5, 5, 5, 5, 5, 5, 5, 5, 5, 5, 5, 6, 6, 6, 6, 6, 6, 6, 6, 6, 6, 6, 6, 6, 6, 6, 6, 6, 6, 6, 6, 6, 6, 6, 6, 6, 6, 6, 6, 6, 6, 6, 6, 7, 7, 7, 7, 7, 7, 7, 7, 7, 7, 7, 7, 7, 7, 7, 7, 7, 7, 7, 7, 7, 7, 7, 7, 7, 7, 7, 7, 7, 7, 7, 7, 7, 7, 7, 7, 7, 7, 7, 7, 7, 7, 7, 7, 7, 7, 7, 7, 7, 7, 7, 7, 7, 7, 7, 7, 7, 7, 7, 7, 7, 7, 7, 7, 8, 8, 8, 8, 8, 8, 8, 8, 8, 8, 8, 8, 8, 8, 8, 8, 8, 8, 8, 8, 8, 8, 8, 8, 8, 8, 8, 8, 8, 8, 8, 8, 8, 8, 8, 8, 8, 8, 8, 8, 8, 8, 8, 8, 8, 8, 8, 8, 8, 8, 8, 8, 8, 8, 8, 8, 8, 8, 8, 8, 8, 8, 8, 8, 8, 8, 8, 8, 8, 8, 8, 8, 8, 8, 8, 8, 8, 8, 8, 8, 8, 8, 8, 8, 8, 8, 8, 8, 8, 8, 8, 8, 8, 8, 8, 8, 8, 8, 8, 8, 8, 8, 8, 8, 8, 8, 8, 8, 8, 8, 8, 8, 8, 8, 8, 8, 8, 8, 8, 8, 8, 8, 8, 8, 8, 8, 8, 8])) (.l 21), none⟩, ⟨.l 23, .convInt .i64 (.l 22), none⟩, ⟨.l 24, .bin .add (.l 19) (.l 23), none⟩, ⟨.p 1, .mv (.l 24), none⟩]) (.ret)))))
theorem ft282 : FT 282 = some ⟨25, [0, 2], [.var (.p 1)], b282⟩ := by kernel_rfl
end Go.Ab.Ch6

/-
  Own work: chapter 6: series by the program: what is deleted, what is sorted.
-/
namespace Go.Ab.Ch6
variable {M : Mach} {cap c1 c2 : Option Nat} {h : Heap} {b n : Nat}
theorem serF_snoc {x : Int} (hx : 0 ≤ x) : ∀ {l out : List Int}, serF out (l ++ [x]) = insD x (serF out l)
  | [], out => by simp only [List.nil_append, serF]; rw [if_neg (by omega)]
  | y :: l, out => by rw [List.cons_append, serF, serF, serF_snoc hx]
theorem serL_snoc {x : Int} (hx : 0 ≤ x) (l : List Int) : serL (l ++ [x]) = insD x (serL l) := serF_snoc hx
theorem serL_nn {l : List Int} (h : ∀ x ∈ l, 0 ≤ x) : (serL l).length = l.length := by
  rw [serL_length, List.filter_eq_self.2 fun x hx => by simpa using h x hx]
structure CSr (M : Mach) : Prop where
  ft : M.FT = FT
  n222 : ∀ ars h, M.ext 222 ars h = none
  n225 : ∀ ars h, M.ext 225 ars h = none
  n227 : ∀ ars h, M.ext 227 ars h = none
  n250 : ∀ ars h, M.ext 250 ars h = none
  n251 : ∀ ars h, M.ext 251 ars h = none
  n282 : ∀ ars h, M.ext 282 ars h = none
  c224 : ∀ x h, M.ext 224 [.int .i64 x] h = some ⟨.bool (decide (x < 0)), h, []⟩
  c226 : ∀ x y h, 0 ≤ x → x < 1000000 → 0 ≤ y → y < 1000000 → M.ext 226 [.int .i64 x, .int .i64 y] h = some ⟨.int .i64 (y - x), h, []⟩
  c125 : ∀ (l : List Int) v h, Sl inC h v l → l.length < 1000000 → M.ext 125 [v, .fn (.func 224) [] []] h = some ⟨.int .i64 (idxP (fun x => decide (x < 0)) l 0), h, []⟩
  c223n : ∀ cap h, M.ext 223 [.vs (ints []) 0 cap] h = some ⟨.nilsl, h, []⟩
  c223 : ∀ (l : List Int) cap h, l ≠ [] → l.length < 1000000 → M.ext 223 [.vs (ints l) l.length cap] h = some ⟨.sl h.length 0 l.length 1 none, h ++ [some (.cells (ints l) 3)], []⟩
theorem loop227s (C : CSr M) (hb : b < h.length) (hn : n < 1000000) (x : Int) (Srt R : List Int) (hx : 0 ≤ x ∧ x < 1000000) (hd : Desc Srt) (ho : ∀ y ∈ Srt, 0 ≤ y ∧ y < 1000000) (hl : Srt.length < n) (k : Nat) (hk : Srt.length = k) (a4 : AV) {Q : Ex → StW → Prop} (lo : List (Nat × AV)) (wr : List Nat) (hw : Only b wr)
    (hQ : ∀ a5 lo wr, Only b wr → Q (.exit 2) ⟨⟨[.sl b 0 n 1 cap, .int .i64 0, .int .i64 n, .fn (.func 226) [] [], a4, a5], lo, h.put b (some (.cells (ints (insD x Srt ++ R)) 3)), []⟩, wr⟩) :
    W M (.loop b227_0) ⟨⟨[.sl b 0 n 1 cap, .int .i64 0, .int .i64 n, .fn (.func 226) [] [], a4, .int .i64 k], lo, h.put b (some (.cells (ints (Srt ++ x :: R)) 3)), []⟩, wr⟩ Q := by
  subst hk
  refine W.loopM (fun k s => ∃ P U lo wr, P.length = k ∧ P ++ U = Srt ∧ (∀ y ∈ U, y < x) ∧ Only b wr ∧ s = ⟨⟨[.sl b 0 n 1 cap, .int .i64 0, .int .i64 n, .fn (.func 226) [] [], a4, .int .i64 P.length], lo, h.put b (some (.cells (ints (P ++ x :: (U ++ R))) 3)), []⟩, wr⟩) (fun k s ⟨P, U, lo, wr, hk, hPU, hU, hw, hs⟩ => ?_) ⟨Srt, [], lo, wr, rfl, by simp, by simp, hw, by simp⟩
  subst hs
  have fin : (P = [] ∨ ∃ R' y, P = R' ++ [y] ∧ x ≤ y) → insD x Srt = P ++ x :: U := fun hP => by
    have e := insD_at (x := x) (l := Srt) (k := P.length) hd (by rw [← hPU]; simp) (by
      rcases hP with rfl | ⟨R', y, rfl, hy⟩
      · exact .inl rfl
      · refine .inr ?_
        rw [← hPU]
        have : (R' ++ [y] ++ U)[(R' ++ [y]).length - 1]! = y := by
          rw [List.append_assoc]
          exact get_at (by simp)
        rw [this]; exact hy) (fun hlt => by
      rw [← hPU] at hlt ⊢
      cases U with
      | nil => simp at hlt
      | cons u U =>
        rw [get_at rfl]; exact hU u (by simp))
    rw [e, ← hPU]
    simp
  have hlen : P.length + U.length = Srt.length := by rw [← hPU]; simp
  unfold b227_0
  rcases List.eq_nil_or_concat P with rfl | ⟨R', y, rfl⟩
  · have h0 : ([] : List Int).length = 0 := rfl
    have e := fin (.inl rfl)
    repeat' first | apply W.seq | apply SQn | apply WO.nil | apply W.exit | apply SQe | apply LIe | apply W.draw | apply WD.nil | (apply WD.sT; exact rfl) | (apply WD.pure1; exact rfl) | (apply W.condF; exact rfl) | (apply WO.gtr; exact rfl; exact rfl; all_goals first | (intro _; exfalso; omega) | intro _) | (apply WO.pkF; exact rfl; exact rfl) | (apply WO.pl; exact rfl; exact rfl)
    rw [show [] ++ x :: (U ++ R) = insD x Srt ++ R by rw [e]; simp]
    exact hQ _ _ _ hw
  · rw [List.concat_eq_append] at *
    have hy := ho y (by rw [← hPU]; simp)
    have eL : (R' ++ [y]) ++ x :: (U ++ R) = R' ++ y :: x :: (U ++ R) := by simp
    have hPl : (R' ++ [y]).length = R'.length + 1 := by simp
    have eJ : (((R' ++ [y]).length : Nat) : Int).toNat = R'.length + 1 := by omega
    have eI : ((((R' ++ [y]).length : Nat) : Int) - 1).toNat = R'.length := by omega
    have gx : ((R' ++ [y]) ++ x :: (U ++ R))[(((R' ++ [y]).length : Nat) : Int).toNat]! = x := by
      rw [eJ]; exact get_at (by omega)
    have gy : ((R' ++ [y]) ++ x :: (U ++ R))[((((R' ++ [y]).length : Nat) : Int) - 1).toNat]! = y := by
      rw [eL, eI]; exact get_at rfl
    have hll : ((R' ++ [y]) ++ x :: (U ++ R)).length = Srt.length + 1 + R.length := by simp; simp at hlen; omega
    have b1 : (((R' ++ [y]).length : Nat) : Int).toNat < ((R' ++ [y]) ++ x :: (U ++ R)).length := by rw [hll]; omega
    have b2 : ((((R' ++ [y]).length : Nat) : Int) - 1).toNat < ((R' ++ [y]) ++ x :: (U ++ R)).length := by rw [hll]; omega
    have q : ∀ H, M.ext 226 [.int .i64 ((R' ++ [y]) ++ x :: (U ++ R))[(((R' ++ [y]).length : Nat) : Int).toNat]!, .int .i64 ((R' ++ [y]) ++ x :: (U ++ R))[((((R' ++ [y]).length : Nat) : Int) - 1).toNat]!] H = some ⟨.int .i64 (y - x), H, []⟩ := fun H => by
      rw [gx, gy]; exact C.c226 x y H hx.1 hx.2 hy.1 hy.2
    by_cases hlt : y < x
    · repeat' first | apply W.seq | apply SQn | apply W.region | apply WO.nil | apply W.block | apply W.skip | apply BQn | apply W.draw | apply WD.nil | (apply WD.gT; exact rfl) | (apply WD.pure1; exact rfl) | (apply WD.load1; exact rfl; exact rfl; exact rfl) | (apply WD.store1; exact rfl; exact rfl; exact rfl) | (apply W.condT; exact rfl) | (apply WO.lss; exact rfl; exact rfl; all_goals first | (intro _; exfalso; omega) | intro _) | (apply WO.gtr; exact rfl; exact rfl; all_goals first | (intro _; exfalso; omega) | intro _) | (apply WO.pkT; exact rfl; exact rfl) | (apply WO.sub; exact rfl; exact rfl; omega) | (apply WD.cl0; exact rfl; exact rfl; exact rfl; first | exact q _) | (apply WO.ias; exact rfl; exact rfl; omega) | (apply WO.lsa; exact rfl; (first | exact rfl | assumption | exact at_new | (apply at_old; assumption) | (apply at_put; first | assumption | (simp only [put_length]; assumption))); exact fun _ => rfl; (first | omega | (simp only [List.length_set]; omega) | (simp; omega)); decide; exact rfl; case ia => infer_instance) | (apply WO.sta; exact rfl; exact rfl; (first | exact rfl | assumption | exact at_new | (apply at_old; assumption) | (apply at_put; first | assumption | (simp only [put_length]; assumption))); exact fun _ => rfl; (first | omega | (simp only [List.length_set]; omega) | (simp; omega)); exact ⟨rfl, by decide, rfl⟩; exact rfl; case ia => infer_instance) | (apply WO.pl; exact rfl; exact rfl) | (apply WO.pp; exact rfl; exact rfl)
      rw [put_put, put_put, gx, gy, eJ, eI, eL, swap_down rfl]
      exact LIn ⟨R'.length, by omega, R', y :: U, _, _, rfl, by rw [← hPU]; simp, fun z hz => by
        rcases List.mem_cons.1 hz with rfl | hz
        · exact hlt
        · exact hU z hz, hw.cons.cons, by rw [show ((R' ++ [y]).length : Int) - 1 = (R'.length : Int) by omega]; rfl⟩
    · have e := fin (.inr ⟨R', y, rfl, by omega⟩)
      repeat' first | apply W.seq | apply SQn | apply WO.nil | apply W.exit | apply SQe | apply LIe | apply W.draw | apply WD.nil | (apply WD.gT; exact rfl) | (apply WD.pure1; exact rfl) | (apply WD.load1; exact rfl; exact rfl; exact rfl) | (apply W.condF; exact rfl) | (apply WO.lss; exact rfl; exact rfl; all_goals first | (intro _; exfalso; omega) | intro _) | (apply WO.gtr; exact rfl; exact rfl; all_goals first | (intro _; exfalso; omega) | intro _) | (apply WO.pkT; exact rfl; exact rfl) | (apply WO.sub; exact rfl; exact rfl; omega) | (apply WD.cl0; exact rfl; exact rfl; exact rfl; first | exact q _) | (apply WO.ias; exact rfl; exact rfl; omega) | (apply WO.lsa; exact rfl; (first | exact rfl | assumption | exact at_new | (apply at_old; assumption) | (apply at_put; first | assumption | (simp only [put_length]; assumption))); exact fun _ => rfl; (first | omega | (simp only [List.length_set]; omega) | (simp; omega)); decide; exact rfl; case ia => infer_instance) | (apply WO.pl; exact rfl; exact rfl)
      rw [show (R' ++ [y]) ++ x :: (U ++ R) = insD x Srt ++ R by rw [e]; simp]
      exact hQ _ _ _ hw
end Go.Ab.Ch6

/-
  Own work: chapter 6: series by the program, the whole.
-/
namespace Go.Ab.Ch6
variable {M : Mach} {cap c1 c2 : Option Nat} {h : Heap} {b n : Nat}
theorem serL_take {X : List Int} (ho : ∀ y ∈ X, 0 ≤ y ∧ y < 1000000) {i : Nat} (hi : i ≤ X.length) : (serL (X.take i)).length = i ∧ Desc (serL (X.take i)) ∧ ∀ y ∈ serL (X.take i), 0 ≤ y ∧ y < 1000000 := by
  have h1 : ∀ y ∈ X.take i, 0 ≤ y := fun y hy => (ho y (List.mem_of_mem_take hy)).1
  refine ⟨by rw [serL_nn h1, List.length_take]; omega, serF_desc List.Pairwise.nil, ?_⟩
  have key : ∀ (l out : List Int), (∀ y ∈ l, 0 ≤ y ∧ y < 1000000) → (∀ y ∈ out, 0 ≤ y ∧ y < 1000000) → ∀ y ∈ serF out l, 0 ≤ y ∧ y < 1000000 := by
    intro l
    induction l with
    | nil => intro out _ h2; exact h2
    | cons x l ih =>
      intro out h1 h2
      rw [serF, if_neg (by have := h1 x (by simp); omega)]
      refine ih _ (fun y hy => h1 y (by simp [hy])) (fun y hy => ?_)
      rcases insD_mem.1 hy with rfl | hy
      · exact h1 _ (by simp)
      · exact h2 y hy
  exact key _ _ (fun y hy => ho y (List.mem_of_mem_take hy)) (by simp)
theorem s227 (C : CSr M) (hb : b < h.length) (hn : n < 1000000) (X T : List Int) (hX : X.length = n) (ho : ∀ y ∈ X, 0 ≤ y ∧ y < 1000000) :
    ∃ wr, Only b wr ∧ CT M (fn 227) [.sl b 0 n 1 cap, .int .i64 0, .int .i64 n, fn 226] (h.put b (some (.cells (ints (X ++ T)) 3))) ⟨.tup [], h.put b (some (.cells (ints (serL X ++ T)) 3)), wr⟩ := by
  obtain ⟨l', wr, hw, rfl, hr⟩ := run_put (M := M) (l := X ++ T) (e := 3) (f := fun x => [.int .i64 x]) (P := fun l' => l' = serL X ++ T)
    (ars := [.sl b 0 n 1 cap, .int .i64 0, .int .i64 n, fn 226]) (by rw [C.ft]; exact ft227) (by simp) hb (fun _ => rfl) (by
      unfold b227
      simp only [List.map_cons, List.map_nil, List.getElem?_cons_zero, List.getElem?_cons_succ, List.getElem?_nil, Option.getD_some, Option.getD_none]
      repeat' first | apply W.seq | apply SQn | apply W.region | apply WO.nil | apply W.block | (apply WO.add; exact rfl; exact rfl; omega) | (apply WO.pl; exact rfl; exact rfl) | (apply WO.pp; exact rfl; exact rfl)
      rcases Nat.eq_zero_or_pos n with h0 | h0
      · obtain rfl := List.length_eq_zero_iff.1 (hX.trans h0)
        subst h0
        refine W.loop ?_
        unfold b227_1
        repeat' first | apply W.seq | apply SQn | apply W.region | apply WO.nil | apply W.exit | apply SQe | apply BQe | apply LQe | (apply W.condF; exact rfl) | (apply WO.lss; exact rfl; exact rfl; all_goals first | (intro _; exfalso; omega) | intro _) | (apply WO.pl; exact rfl; exact rfl)
        exact ⟨.inl rfl, rfl, T, rfl, Only.nil, rfl⟩
      · have e0 : serL (X.take (0 + 1)) ++ X.drop (0 + 1) = X := by
          have h1 : 0 < X.length := by omega
          have hx : 0 ≤ X[0]! := by rw [getElem!_pos X 0 h1]; exact (ho _ (List.getElem_mem h1)).1
          rw [take_snoc' h1, serL_snoc hx]
          show X[0]! :: X.drop 1 = X
          rw [getElem!_pos X 0 h1]
          exact (List.drop_eq_getElem_cons h1).symm
        refine W.loopI (n - 1) (fun i s => ∃ a5 lo wr, s = ⟨⟨[.sl b 0 n 1 cap, .int .i64 0, .int .i64 n, fn 226, .int .i64 (i + 1 : Nat), a5], lo, h.put b (some (.cells (ints (serL (X.take (i + 1)) ++ X.drop (i + 1) ++ T)) 3)), []⟩, wr⟩ ∧ Only b wr) (fun i s hi ⟨a5, lo, wr, hs, hw⟩ => ?_) (fun s ⟨a5, lo, wr, hs, hw⟩ => ?_) (Nat.zero_le _) ⟨undefA, [(11, .int .i64 (0 + 1)), (10, .int .i64 0)], [], by rw [e0]; rfl, Only.nil⟩
        · subst hs
          obtain ⟨g1, g2, g3⟩ := serL_take ho (i := i + 1) (by omega)
          have hi1 : i + 1 < X.length := by omega
          have hx : 0 ≤ X[i + 1]! ∧ X[i + 1]! < 1000000 := by rw [getElem!_pos X (i + 1) hi1]; exact ho _ (List.getElem_mem hi1)
          have e1 : X.drop (i + 1) = X[i + 1]! :: X.drop (i + 2) := by rw [List.drop_eq_getElem_cons hi1, getElem!_pos X (i + 1) hi1]
          have e2 : serL (X.take (i + 2)) = insD X[i + 1]! (serL (X.take (i + 1))) := by rw [take_snoc' hi1, serL_snoc hx.1]
          unfold b227_1
          repeat' first | apply W.seq | apply SQn | apply W.region | apply WO.nil | apply W.block | apply W.skip | (apply W.condT; exact rfl) | (apply WO.lss; exact rfl; exact rfl; all_goals first | (intro _; exfalso; omega) | intro _) | (apply WO.pl; exact rfl; exact rfl) | (apply WO.pp; exact rfl; exact rfl)
          rw [e1, show serL (X.take (i + 1)) ++ X[i + 1]! :: X.drop (i + 2) ++ T = serL (X.take (i + 1)) ++ X[i + 1]! :: (X.drop (i + 2) ++ T) by simp]
          have hlt : (serL (X.take (i + 1))).length < n := by omega
          refine loop227s C hb hn X[i + 1]! (serL (X.take (i + 1))) (X.drop (i + 2) ++ T) hx g2 g3 hlt (i + 1) g1 _ _ _ hw (fun a5 lo wr hw => ?_)
          repeat' first | apply SQn | apply W.region | apply WO.nil | apply BQn | apply BQe | (apply WO.add; exact rfl; exact rfl; omega) | (apply WO.pl; exact rfl; exact rfl) | (apply WO.pp; exact rfl; exact rfl)
          rw [show insD X[i + 1]! (serL (X.take (i + 1))) ++ (X.drop (i + 2) ++ T) = serL (X.take (i + 1 + 1)) ++ X.drop (i + 1 + 1) ++ T by rw [show i + 1 + 1 = i + 2 from rfl, e2, List.append_assoc]]
          exact LIn ⟨_, _, _, rfl, hw⟩
        · subst hs
          obtain rfl : X.length = n := hX
          rw [show X.length - 1 + 1 = X.length by omega, List.take_length, List.drop_length, List.append_nil]
          unfold b227_1
          repeat' first | apply W.seq | apply SQn | apply W.region | apply WO.nil | apply W.exit | apply SQe | apply BQe | apply LIe | (apply W.condF; exact rfl) | (apply WO.lss; exact rfl; exact rfl; all_goals first | (intro _; exfalso; omega) | intro _) | (apply WO.pl; exact rfl; exact rfl)
          exact ⟨.inl rfl, rfl, _, rfl, hw, rfl⟩)
  exact ⟨wr, hw, ct_of_run C.n227 hr⟩
theorem s250 (C : CSr M) (hb : b < h.length) (hn : n ≤ 12) (X T : List Int) (hX : X.length = n) (ho : ∀ y ∈ X, 0 ≤ y ∧ y < 1000000) (r : Int) :
    ∃ wr, Only b wr ∧ CT M (fn 250) [.sl b 0 n 1 cap, .int .i64 0, .int .i64 n, .int .i64 r, fn 226] (h.put b (some (.cells (ints (X ++ T)) 3))) ⟨.tup [], h.put b (some (.cells (ints (serL X ++ T)) 3)), wr⟩ := by
  obtain ⟨wr, hw, hcc⟩ := s227 (cap := cap) C hb (by omega) X T hX ho
  obtain ⟨l', wr, hw, rfl, hr⟩ := run_put (M := M) (l := X ++ T) (e := 3) (f := fun x => [.int .i64 x]) (P := fun l' => l' = serL X ++ T)
    (ars := [.sl b 0 n 1 cap, .int .i64 0, .int .i64 n, .int .i64 r, fn 226]) (by rw [C.ft]; exact ft250) (by simp) hb (fun _ => rfl) (by
      unfold b250
      simp only [List.map_cons, List.map_nil, List.getElem?_cons_zero, List.getElem?_cons_succ, List.getElem?_nil, Option.getD_some, Option.getD_none]
      repeat' first | apply W.seq | apply SQn | apply W.region | apply WO.nil | apply W.block | (apply WO.pp; exact rfl; exact rfl)
      refine W.loop ?_
      unfold b250_0
      repeat' first | apply W.seq | apply SQn | apply W.region | apply WO.nil | apply W.block | apply W.ret | apply SQr | apply BQr | apply LQr | (apply W.condT; exact rfl) | (apply WO.leq; exact rfl; exact rfl; all_goals first | (intro _; exfalso; omega) | intro _) | (apply WO.sub; exact rfl; exact rfl; omega) | (apply WO.ct; exact rfl; exact rfl; first | exact hcc) | (apply WO.pl; exact rfl; exact rfl) | (apply WO.pp; exact rfl; exact rfl)
      exact ⟨.inr rfl, rfl, _, rfl, Only.app hw (by simpa using Only.nil), rfl⟩)
  exact ⟨wr, hw, ct_of_run C.n250 hr⟩
set_option maxRecDepth 10000 in
theorem s282 (C : CSr M) (m : Nat) (hm : m < 256) (hp : Heap) : ∃ r : Int, CT M (fn 282) [.int .u64 m] hp ⟨.int .i64 r, hp, []⟩ := by
  obtain ⟨v, ⟨r, rfl⟩, h2⟩ := run_sameE (M := M) (h := hp) (ars := [.int .u64 m]) (P := fun v => ∃ r : Int, v = .int .i64 r) (by rw [C.ft]; exact ft282) (by simp) (by
    simp only [List.map_cons, List.map_nil, List.getElem?_cons_zero, List.getElem?_cons_succ, List.getElem?_nil, Option.getD_some, Option.getD_none]
    unfold b282
    repeat' first | (apply WO.idxr; exact rfl; exact rfl; exact ⟨by omega, Int.lt_of_lt_of_le (b := 256) (by omega) (Int.ofNat_le.2 (Nat.le_of_eq rfl))⟩; intro _ _ _) | (apply WO.cv8; exact rfl; omega) | apply W.seq | apply SQn | apply W.region | apply WO.nil | apply W.ret | apply W.skip | (apply W.condF; exact rfl) | (apply WO.geq; exact rfl; exact rfl; all_goals first | (intro _; exfalso; omega) | intro _) | (apply WO.cvi; exact rfl; omega) | (apply WO.add; exact rfl; exact rfl; omega) | (apply WO.pl; exact rfl; exact rfl) | (apply WO.pp; exact rfl; exact rfl)
    rename_i r h1 h2
    exact ⟨.inr rfl, rfl, rfl, rfl, _, rfl, _, rfl⟩)
  exact ⟨r, CT.run (C.n282 _ _) (by simpa using h2)⟩
theorem s251 (C : CSr M) (m : Nat) (hm : m < 256) (hp : Heap) : ∃ r : Int, CT M (fn 251) [.int .u64 m] hp ⟨.int .i64 r, hp, []⟩ := by
  obtain ⟨r, hc⟩ := s282 C m hm hp
  refine ⟨r, CT.run (C.n251 _ _) ?_⟩
  refine run_same (by rw [C.ft]; exact ft251) (by simp) ?_
  unfold b251
  simp only [List.map_cons, List.map_nil, List.getElem?_cons_zero, List.getElem?_cons_succ, List.getElem?_nil, Option.getD_some, Option.getD_none]
  repeat' first | apply W.seq | apply SQn | apply W.region | apply WO.nil | apply W.ret | apply W.skip | (apply W.condF; exact rfl) | (apply WO.ct; exact rfl; exact rfl; first | exact hc) | (apply WO.pl; exact rfl; exact rfl) | (apply WO.pp; exact rfl; exact rfl)
  exact ⟨.inr rfl, rfl, rfl, rfl, _, rfl, rfl⟩
theorem s225 (C : CSr M) (hb : b < h.length) (hn : n ≤ 12) (X T : List Int) (hX : X.length = n) (ho : ∀ y ∈ X, 0 ≤ y ∧ y < 1000000) :
    ∃ wr, Only b wr ∧ CT M (fn 225) [.sl b 0 n 1 cap, fn 226] (h.put b (some (.cells (ints (X ++ T)) 3))) ⟨.tup [], h.put b (some (.cells (ints (serL X ++ T)) 3)), wr⟩ := by
  obtain ⟨r, hl⟩ := s251 C n (by omega) (h.put b (some (.cells (ints (X ++ T)) 3)))
  obtain ⟨wr, hw, hcc⟩ := s250 (cap := cap) C hb hn X T hX ho r
  obtain ⟨l', wr, hw, rfl, hr⟩ := run_put (M := M) (l := X ++ T) (e := 3) (f := fun x => [.int .i64 x]) (P := fun l' => l' = serL X ++ T)
    (ars := [.sl b 0 n 1 cap, fn 226]) (by rw [C.ft]; exact ft225) (by simp) hb (fun _ => rfl) (by
      unfold b225
      simp only [List.map_cons, List.map_nil, List.getElem?_cons_zero, List.getElem?_cons_succ, List.getElem?_nil, Option.getD_some, Option.getD_none]
      repeat' first | apply W.seq | apply SQn | apply W.region | apply WO.nil | (apply WO.cvu; exact rfl; omega) | (apply WO.ct; exact rfl; exact rfl; first | exact hl | exact hcc) | (apply WO.pl; exact rfl; exact rfl) | (apply WO.pp; exact rfl; exact rfl)
      exact ⟨.inl rfl, rfl, _, rfl, Only.app hw (by simpa using Only.nil), rfl⟩)
  exact ⟨wr, hw, ct_of_run C.n225 hr⟩
end Go.Ab.Ch6

/-
  Own work: chapter 6: slices.DeleteFunc over a row of ints; series.
-/
namespace Go.Ab.Ch6
variable {M : Mach} {cap c1 c2 : Option Nat} {h : Heap} {b n : Nat}
theorem ret_putV {h : Heap} {b : Nat} {c c0 : List AV} {e : TypeId} {s : StW} {v : AV} (hb : b < h.length) (hh : s.s.hp = h.put b (some (.cells c e))) (hw : Only b s.wr) (hc : topL c = 0) (hv : v.top ≤ h.length) :
    ∃ wr, Only b wr ∧ retA v (h.put b (some (.cells c0 e))).length s = ⟨v, h.put b (some (.cells c e)), wr⟩ := by
  refine ⟨s.wr.filter (· < h.length), fun x hx => hw x (List.mem_filter.1 hx).1, ?_⟩
  have hl : (h.put b (some (.cells c0 e))).length = h.length := put_length
  have ht : tight s.s.hp h.length s.wr = true := by
    simp only [tight, List.all_eq_true]
    intro x hx
    rw [hw x hx, hh, at_put hb]
    simp [Blk.top, hc]
  have hk : (h.put b (some (.cells c e))).take h.length = h.put b (some (.cells c e)) := List.take_of_length_le (by rw [put_length]; exact Nat.le_refl _)
  simp only [retA, hl, ht, Bool.and_true]
  rw [hh, hk]
  split <;> rfl
theorem run_putV {α : Type} {f : α → List AV} {h : Heap} {b : Nat} {l : List α} {e : TypeId} {g N : Nat} {pers : List Nat} {res : List IRes} {body : ICode} {ars : List AV} {v : AV} {l' : List α} (hft : M.FT g = some ⟨N, pers, res, body⟩) (hN : ars.length ≤ N) (hb : b < h.length) (hf : ∀ a, topL (f a) = 0) (hv : v.top ≤ h.length)
    (hW : W M body ⟨⟨pers.map (fun t => (ars[t]?).getD undefA), [], h.put b (some (.cells (arr f l) e)), []⟩, []⟩ fun x s => (x = .normal ∨ x = .ret) ∧ s.s.dfs = [] ∧ s.s.hp = h.put b (some (.cells (arr f l') e)) ∧ Only b s.wr ∧ ∃ vs, resultsA s.s res = some vs ∧ tupA vs = v) :
    ∃ wr, Only b wr ∧ Run M g ars (h.put b (some (.cells (arr f l) e))) ⟨v, h.put b (some (.cells (arr f l') e)), wr⟩ := by
  obtain ⟨⟨n, x, s, h1, h2, h3, h4, h5, vs, h6, h7⟩⟩ := hW
  obtain ⟨wr, hw, hr⟩ := ret_putV (c0 := arr f l) hb h4 h5 (topL_arr hf l') hv
  exact ⟨wr, hw, run_of_WH hft hN ⟨⟨n, x, s, h1, h2, h3, vs, h6, by rw [h7]; exact hr⟩⟩⟩
theorem WO.slT {t m : Nat} {x z : IOpd} {L : List IOper} {pe : List AV} {lo : List (Nat × AV)} {hp : Heap} {df wr : List Nat} {k : IntKind} {Q : StW → Prop} (hx : (St.mk pe lo hp df).opd x = some (.sl b 0 n 1 none)) (hz : (St.mk pe lo hp df).opd z = some (.int k m)) (hm : m < n)
    (hQ : WO M L ⟨⟨pe, (t, .sl b m (n - m) 1 none) :: lo, hp, df⟩, wr⟩ Q) : WO M (⟨.l t, .slice .sl 1 x (some z) none none, none⟩ :: L) ⟨⟨pe, lo, hp, df⟩, wr⟩ Q := by
  refine WO.pl (v := .sl b m (n - m) 1 none) ?_ rfl hQ
  have hb : (0 : Int) ≤ (m : Int) ∧ (m : Int) ≤ ((n : Nat) : Int) := by omega
  simp only [pureA, hx, St.oopd, hz, Option.map_some, sliceA, boundA, Option.isNone_none, Bool.true_or, if_true, if_pos hb, Int.toNat_natCast, if_pos hm]
  simp
theorem WO.slH {t m : Nat} {x z : IOpd} {L : List IOper} {pe : List AV} {lo : List (Nat × AV)} {hp : Heap} {df wr : List Nat} {k : IntKind} {Q : StW → Prop} (hx : (St.mk pe lo hp df).opd x = some (.sl b 0 n 1 none)) (hz : (St.mk pe lo hp df).opd z = some (.int k m)) (hm : m ≤ n)
    (hQ : WO M L ⟨⟨pe, (t, if m = 0 then .vs [] 0 none else .sl b 0 m 1 none) :: lo, hp, df⟩, wr⟩ Q) : WO M (⟨.l t, .slice .sl 1 x none (some z) none, none⟩ :: L) ⟨⟨pe, lo, hp, df⟩, wr⟩ Q := by
  refine WO.pl (v := if m = 0 then .vs [] 0 none else .sl b 0 m 1 none) ?_ rfl hQ
  have hb : (0 : Int) ≤ (m : Int) ∧ (m : Int) ≤ ((n : Nat) : Int) := by omega
  by_cases h0 : m = 0
  · subst h0
    simp only [pureA, hx, St.oopd, hz, Option.map_some, sliceA, boundA, Option.isNone_none, Option.isSome_some, Bool.true_or, if_true, Option.getD_none]
    rw [if_pos hb]
    simp
  · simp only [pureA, hx, St.oopd, hz, Option.map_some, sliceA, boundA, Option.isNone_none, Option.isSome_some, Bool.true_or, if_true, Option.getD_none]
    rw [if_pos hb]
    simp [h0]
theorem WO.clrE {x : IOpd} {L : List IOper} {pe : List AV} {lo : List (Nat × AV)} {hp : Heap} {df wr : List Nat} {A G : List Int} {e : TypeId} {m g : Nat} {cap : Option Nat} {Q : StW → Prop} (hx : (St.mk pe lo hp df).opd x = some (.sl b m g 1 cap)) (hb : hp.at b = some (.cells (ints (A ++ G)) e)) (hA : A.length = m) (hG : G.length = g) (hg : 0 < g)
    (hQ : WO M L ⟨⟨pe, lo, hp.put b (some (.cells (ints (A ++ List.replicate g 0)) e)), df⟩, b :: wr⟩ Q) : WO M (⟨.no, .clr 1 [.int .i64 0] x, none⟩ :: L) ⟨⟨pe, lo, hp, df⟩, wr⟩ Q := by
  subst hA; subst hG
  refine WO.hnv (v := .tup []) (h' := hp.put b (some (.cells (ints (A ++ List.replicate G.length 0)) e))) (w' := [b]) ?_ rfl rfl hQ
  have hz : repeatZero [AV.int .i64 0] G.length = ints (List.replicate G.length 0) := arr_zero (f := fun x => [AV.int .i64 x]) 0 G.length
  have e1 : overwrite (ints (A ++ G)) A.length (ints (List.replicate G.length 0)) = ints (A ++ List.replicate G.length 0) := by
    have l1 : (ints A).length = A.length := ints_len A
    have l2 : (ints G).length = G.length := ints_len G
    have l3 : (ints (List.replicate G.length 0)).length = G.length := by rw [ints_len, List.length_replicate]
    have l4 : ∀ a c : List Int, ints (a ++ c) = ints a ++ ints c := fun a c => arr_append a c
    rw [l4, l4]
    simp only [overwrite, l3]
    rw [← l1, List.take_left, List.drop_append, List.drop_eq_nil_of_le (by omega), List.nil_append, show (ints A).length + G.length - (ints A).length = G.length by omega, List.drop_eq_nil_of_le (by omega), List.append_nil]
  simp only [heapA, hx, hb, hz, e1]
  rw [if_pos ⟨trivial, rfl, rfl, hg⟩, if_pos (by rw [ints_len, List.length_append]; omega)]
def kept (l : List Int) : List Int := l.filter fun x => decide (0 ≤ x)
def cutV (b m : Nat) (cap : Option Nat) : AV := if m = 0 then .vs [] 0 cap else .sl b 0 m 1 cap
theorem kept_take {l : List Int} {i : Nat} (h : i < l.length) : kept (l.take (i + 1)) = kept (l.take i) ++ if l[i]! < 0 then [] else [l[i]!] := by
  rw [take_snoc' h, kept, List.filter_append, kept]
  congr 1
  by_cases hx : l[i]! < 0
  · rw [if_pos hx, List.filter_cons, if_neg (by rw [decide_eq_true_eq]; omega)]; rfl
  · rw [if_neg hx, List.filter_cons, if_pos (by rw [decide_eq_true_eq]; omega)]; rfl
theorem idxP_first {p : Int → Bool} : ∀ (l : List Int) (i : Nat), (idxP p l i = -1 ∧ ∀ x ∈ l, p x = false) ∨ ∃ k, idxP p l i = ((i + k : Nat) : Int) ∧ k < l.length ∧ p l[k]! = true ∧ ∀ x ∈ l.take k, p x = false
  | [], i => .inl ⟨rfl, by simp⟩
  | x :: l, i => by
    cases hx : p x
    · rw [idxP, hx, if_neg (by simp)]
      rcases idxP_first (p := p) l (i + 1) with ⟨h1, h2⟩ | ⟨k, h1, h2, h3, h4⟩
      · exact .inl ⟨h1, fun y hy => by
          rcases List.mem_cons.1 hy with rfl | hy
          · exact hx
          · exact h2 y hy⟩
      · refine .inr ⟨k + 1, by rw [h1]; congr 1; omega, by simp; omega, ?_, fun y hy => ?_⟩
        · rw [getElem!_pos _ _ (by simp; omega), List.getElem_cons_succ, ← getElem!_pos l k h2]; exact h3
        · rw [List.take_succ_cons] at hy
          rcases List.mem_cons.1 hy with rfl | hy
          · exact hx
          · exact h4 y hy
    · rw [idxP, hx, if_pos rfl]
      exact .inr ⟨0, rfl, by simp, by simpa using hx, by simp⟩
set_option maxHeartbeats 1000000 in
theorem s222 (C : CSr M) (hb : b < h.length) (l : List Int) (hl : l.length < 1000000) (hl0 : 0 < l.length) :
    ∃ wr T, Only b wr ∧ CT M (fn 222) [.sl b 0 l.length 1 none, fn 224] (h.put b (some (.cells (ints l) 3))) ⟨cutV b (kept l).length none, h.put b (some (.cells (ints (kept l ++ T)) 3)), wr⟩ := by
  have q125 := C.c125 l (.sl b 0 l.length 1 none) (h.put b (some (.cells (ints l) 3))) (Sl.ofAt (f := inC) (esz := 1) (e := 3) (fun _ => rfl) (at_put hb) rfl) hl
  rcases idxP_first (p := fun x => decide (x < 0)) l 0 with ⟨h1, h2⟩ | ⟨k, h1, hk, h3, h4⟩
  · rw [h1] at q125
    have e : kept l = l := List.filter_eq_self.2 fun x hx => by have := h2 x hx; simp at this ⊢; exact this
    rw [e]
    refine ⟨_, [], Only.nil, ct_of_run C.n222 ?_⟩
    rw [List.append_nil, cutV, if_neg (by omega)]
    refine run_of_WH (by rw [C.ft]; exact ft222) (by simp) ?_
    unfold b222
    simp only [List.map_cons, List.map_nil, List.getElem?_cons_zero, List.getElem?_cons_succ, List.getElem?_nil, Option.getD_some, Option.getD_none]
    repeat' first | apply W.seq | apply SQn | apply W.region | apply WO.nil | apply W.ret | apply SQr | (apply W.condT; exact rfl) | (apply WO.eql; exact rfl; exact rfl; all_goals first | (intro _; exfalso; omega) | intro _) | (apply WO.cll; exact rfl; exact rfl; first | exact q125) | (apply WO.pl; exact rfl; exact rfl) | (apply WO.pp; exact rfl; exact rfl)
    exact ⟨.inr rfl, rfl, _, rfl, ret_same rfl rfl⟩
  · rw [h1, Nat.zero_add] at q125
    have ek : kept (l.take k) = l.take k := List.filter_eq_self.2 fun x hx => by have := h4 x hx; simp at this ⊢; exact this
    have hkl : (l.take k).length = k := by rw [List.length_take]; omega
    have hkx : l[k]! < 0 := of_decide_eq_true h3
    have ek1 : kept (l.take (k + 1)) = l.take k := by rw [kept_take hk, if_pos hkx, ek, List.append_nil]
    have key : ∀ {Q : Ex → StW → Prop} (lo : List (Nat × AV)), (∀ a5 lo wr G, Only b wr → (kept l).length + G.length = l.length → 0 < G.length → Q (.exit 0) ⟨⟨[.sl b 0 l.length 1 none, fn 224, .nilsl, .int .i64 (kept l).length, .int .i64 l.length, a5], lo, h.put b (some (.cells (ints (kept l ++ G)) 3)), []⟩, wr⟩) →
        W M (.loop b222_0) ⟨⟨[.sl b 0 l.length 1 none, fn 224, .nilsl, .int .i64 k, .int .i64 (k + 1), undefA], lo, h.put b (some (.cells (ints l) 3)), []⟩, []⟩ Q := fun {Q} lo hQ => by
      refine W.loopI (l.length - (k + 1)) (fun i s => ∃ G a5 lo wr, (kept (l.take (k + 1 + i))).length + G.length = k + 1 + i ∧ 0 < G.length ∧ Only b wr ∧ s = ⟨⟨[.sl b 0 l.length 1 none, fn 224, .nilsl, .int .i64 (kept (l.take (k + 1 + i))).length, .int .i64 (k + 1 + i : Nat), a5], lo, h.put b (some (.cells (ints (kept (l.take (k + 1 + i)) ++ G ++ l.drop (k + 1 + i))) 3)), []⟩, wr⟩) (fun i s hi ⟨G, a5, lo, wr, hG, hG0, hw, hs⟩ => ?_) (fun s ⟨G, a5, lo, wr, hG, hG0, hw, hs⟩ => ?_) (Nat.zero_le _) ⟨[l[k]!], undefA, lo, [], by rw [Nat.add_zero, ek1, hkl]; rfl, by simp, Only.nil, ?_⟩
      · subst hs
        obtain ⟨j, hj⟩ : ∃ j, j = k + 1 + i := ⟨_, rfl⟩
        rw [show k + 1 + (i + 1) = k + 1 + i + 1 by omega]
        rw [← hj] at hG ⊢
        have hjl : j < l.length := by omega
        have e1 : l.drop j = l[j]! :: l.drop (j + 1) := by rw [List.drop_eq_getElem_cons hjl, getElem!_pos l j hjl]
        have ekt := kept_take hjl
        obtain ⟨F, hF⟩ : ∃ F, F = kept (l.take j) := ⟨_, rfl⟩
        rw [← hF] at hG ekt ⊢
        rw [ekt, e1]
        have hlen : (F ++ G ++ l[j]! :: l.drop (j + 1)).length = l.length := by simp; omega
        have gx : (F ++ G ++ l[j]! :: l.drop (j + 1))[((j : Int)).toNat]! = l[j]! := get_at (by simp; omega)
        have b1 : ((j : Int)).toNat < (F ++ G ++ l[j]! :: l.drop (j + 1)).length := by rw [hlen]; omega
        have q := fun H => C.c224 (F ++ G ++ l[j]! :: l.drop (j + 1))[((j : Int)).toNat]! H
        rw [gx] at q
        have q' : ∀ H, M.ext 224 [.int .i64 (F ++ G ++ l[j]! :: l.drop (j + 1))[((j : Int)).toNat]!] H = some ⟨.bool (decide (l[j]! < 0)), H, []⟩ := fun H => by rw [gx]; exact q H
        unfold b222_0
        by_cases hx : l[j]! < 0
        · rw [decide_eq_true hx] at q'
          rw [if_pos hx, List.append_nil]
          repeat' first | apply W.seq | apply SQn | apply W.region | apply WO.nil | apply W.block | apply W.skip | apply BQn | (apply W.condT; exact rfl) | (apply W.condF; exact rfl) | (apply WO.lss; exact rfl; exact rfl; all_goals first | (intro _; exfalso; omega) | intro _) | (apply WO.add; exact rfl; exact rfl; omega) | (apply WO.cll; exact rfl; exact rfl; first | exact q' _) | (apply WO.ias; exact rfl; exact rfl; omega) | (apply WO.lsa; exact rfl; (first | exact rfl | assumption | exact at_new | (apply at_old; assumption) | (apply at_put; first | assumption | (simp only [put_length]; assumption))); exact fun _ => rfl; (first | omega | (simp only [List.length_set]; omega) | (simp; omega)); decide; exact rfl; case ia => infer_instance) | (apply WO.pl; exact rfl; exact rfl) | (apply WO.pp; exact rfl; exact rfl)
          rw [show F ++ G ++ l[j]! :: l.drop (j + 1) = F ++ (G ++ [l[j]!]) ++ l.drop (j + 1) by simp]
          exact LIn ⟨G ++ [l[j]!], _, _, _, by simp only [List.length_append, List.length_singleton]; omega, by simp, hw, rfl⟩
        · rw [decide_eq_false hx] at q'
          rw [if_neg hx]
          obtain ⟨g, G', rfl⟩ : ∃ g G', G = g :: G' := by
            cases G with
            | nil => simp at hG0
            | cons g G' => exact ⟨g, G', rfl⟩
          have b2 : ((F.length : Int)).toNat < (F ++ (g :: G') ++ l[j]! :: l.drop (j + 1)).length := by rw [hlen]; simp at hG; omega
          have eset : (F ++ (g :: G') ++ l[j]! :: l.drop (j + 1)).set ((F.length : Int)).toNat l[j]! = (F ++ [l[j]!]) ++ (G' ++ [l[j]!]) ++ l.drop (j + 1) := by
            rw [Int.toNat_natCast, List.append_assoc, List.set_append_right _ _ (Nat.le_refl _), Nat.sub_self]
            simp
          repeat' first | apply W.seq | apply SQn | apply W.region | apply WO.nil | apply W.block | apply W.skip | apply BQn | (apply W.condT; exact rfl) | (apply WO.lss; exact rfl; exact rfl; all_goals first | (intro _; exfalso; omega) | intro _) | (apply WO.add; exact rfl; exact rfl; omega) | (apply WO.cll; exact rfl; exact rfl; first | exact q' _) | (apply WO.ias; exact rfl; exact rfl; omega) | (apply WO.lsa; exact rfl; (first | exact rfl | assumption | exact at_new | (apply at_old; assumption) | (apply at_put; first | assumption | (simp only [put_length]; assumption))); exact fun _ => rfl; (first | omega | (simp only [List.length_set]; omega) | (simp; omega)); decide; exact rfl; case ia => infer_instance) | (apply WO.sta; exact rfl; exact rfl; (first | exact rfl | assumption | exact at_new | (apply at_old; assumption) | (apply at_put; first | assumption | (simp only [put_length]; assumption))); exact fun _ => rfl; (first | omega | (simp only [List.length_set]; omega) | (simp; omega)); exact ⟨rfl, by decide, rfl⟩; exact rfl; case ia => infer_instance) | (apply WO.pl; exact rfl; exact rfl) | (apply WO.pp; exact rfl; exact rfl)
          rw [put_put, gx, eset]
          have ef : (F.length : Int) + 1 = ((F ++ [l[j]!]).length : Nat) := by simp
          rw [ef]
          exact LIn ⟨G' ++ [l[j]!], _, _, _, by have h9 := hG; simp only [List.length_append, List.length_cons, List.length_nil] at h9 ⊢; omega, by simp, hw.cons, rfl⟩
      · subst hs
        have hj : k + 1 + (l.length - (k + 1)) = l.length := by omega
        rw [hj, List.take_length] at hG
        rw [hj, List.take_length, List.drop_length, List.append_nil]
        unfold b222_0
        repeat' first | apply W.seq | apply SQn | apply W.region | apply WO.nil | apply W.exit | apply SQe | apply LIe | (apply W.condF; exact rfl) | (apply WO.lss; exact rfl; exact rfl; all_goals first | (intro _; exfalso; omega) | intro _) | (apply WO.pl; exact rfl; exact rfl)
        exact hQ _ _ _ G hw hG hG0
      · have e0 : kept (l.take (k + 1 + 0)) ++ [l[k]!] ++ l.drop (k + 1 + 0) = l := by
          rw [Nat.add_zero, ek1, ← take_snoc' hk, List.take_append_drop]
        rw [e0, Nat.add_zero, ek1, hkl]
        rfl
    have hm : (kept l).length < l.length := by
      have h5 := List.length_filter_le (fun x => decide (0 ≤ x)) l
      have h6 : (kept l).length = (l.filter fun x => decide (0 ≤ x)).length := rfl
      rcases Nat.lt_or_ge (kept l).length l.length with h7 | h7
      · exact h7
      · have h8 := List.length_filter_eq_length_iff.1 (show (l.filter fun x => decide (0 ≤ x)).length = l.length by omega) l[k]! (by rw [getElem!_pos l k hk]; exact List.getElem_mem hk)
        simp at h8
        rw [getElem!_pos l k hk] at hkx
        simp [hk] at h8
        omega
    have hv : (cutV b (kept l).length none).top ≤ h.length := by
      unfold cutV; split <;> simp [AV.top, topL] ; omega
    obtain ⟨wr, hw, hr⟩ := run_putV (M := M) (l := l) (l' := kept l ++ List.replicate (l.length - (kept l).length) 0) (e := 3) (f := inC) (ars := [.sl b 0 l.length 1 none, fn 224]) (v := cutV b (kept l).length none) (by rw [C.ft]; exact ft222) (by simp) hb (fun _ => rfl) hv (by
      unfold b222
      simp only [List.map_cons, List.map_nil, List.getElem?_cons_zero, List.getElem?_cons_succ, List.getElem?_nil, Option.getD_some, Option.getD_none]
      repeat' first | apply W.seq | apply SQn | apply W.region | apply WO.nil | apply W.block | apply W.skip | (apply W.condF; exact rfl) | (apply WO.eql; exact rfl; exact rfl; all_goals first | (intro _; exfalso; omega) | intro _) | (apply WO.add; exact rfl; exact rfl; omega) | (apply WO.cll; exact rfl; exact rfl; first | exact q125) | (apply WO.pl; exact rfl; exact rfl) | (apply WO.pp; exact rfl; exact rfl)
      refine key _ (fun a5 lo wr G hw hG hG0 => ?_)
      repeat' first | (apply WO.slT; exact rfl; exact rfl; exact hm) | (apply WO.clrE (A := kept l) (G := G); exact rfl; exact at_put hb; exact rfl; omega; omega) | (apply WO.slH; exact rfl; exact rfl; omega) | apply W.seq | apply SQn | apply W.region | apply WO.nil | apply W.ret | apply BQe | (apply WO.pl; exact rfl; exact rfl) | (apply WO.pp; exact rfl; exact rfl)
      exact ⟨.inr rfl, rfl, by rw [put_put]; rfl, hw.cons, _, rfl, rfl⟩)
    exact ⟨wr, _, hw, ct_of_run C.n222 hr⟩
end Go.Ab.Ch6

/-
  Own work: chapter 6: series by the program, ranks by both.
-/
namespace Go.Ab.Ch6
variable {M : Mach} {cap c1 c2 : Option Nat}
theorem e227 (C : CSr M) (v : AV) (hp : Heap) : CT M (fn 227) [v, .int .i64 0, .int .i64 0, fn 226] hp ⟨.tup [], hp, []⟩ := by
  refine ct_of_run C.n227 (run_same (by rw [C.ft]; exact ft227) (by simp) ?_)
  unfold b227
  simp only [List.map_cons, List.map_nil, List.getElem?_cons_zero, List.getElem?_cons_succ, List.getElem?_nil, Option.getD_some, Option.getD_none]
  repeat' first | apply W.seq | apply SQn | apply W.region | apply WO.nil | apply W.block | (apply WO.add; exact rfl; exact rfl; omega) | (apply WO.pl; exact rfl; exact rfl) | (apply WO.pp; exact rfl; exact rfl)
  refine W.loop ?_
  unfold b227_1
  repeat' first | apply W.seq | apply SQn | apply W.region | apply WO.nil | apply W.exit | apply SQe | apply BQe | apply LQe | (apply W.condF; exact rfl) | (apply WO.lss; exact rfl; exact rfl; all_goals first | (intro _; exfalso; omega) | intro _) | (apply WO.pl; exact rfl; exact rfl)
  exact ⟨.inl rfl, rfl, rfl, rfl, _, rfl, rfl⟩
theorem e250 (C : CSr M) (v : AV) (r : Int) (hp : Heap) : CT M (fn 250) [v, .int .i64 0, .int .i64 0, .int .i64 r, fn 226] hp ⟨.tup [], hp, []⟩ := by
  have q := e227 C v hp
  refine ct_of_run C.n250 (run_same (by rw [C.ft]; exact ft250) (by simp) ?_)
  unfold b250
  simp only [List.map_cons, List.map_nil, List.getElem?_cons_zero, List.getElem?_cons_succ, List.getElem?_nil, Option.getD_some, Option.getD_none]
  repeat' first | apply W.seq | apply SQn | apply W.region | apply WO.nil | apply W.block | (apply WO.pp; exact rfl; exact rfl)
  refine W.loop ?_
  unfold b250_0
  repeat' first | apply W.seq | apply SQn | apply W.region | apply WO.nil | apply W.block | apply W.ret | apply SQr | apply BQr | apply LQr | (apply W.condT; exact rfl) | (apply WO.leq; exact rfl; exact rfl; all_goals first | (intro _; exfalso; omega) | intro _) | (apply WO.sub; exact rfl; exact rfl; omega) | (apply WO.ct; exact rfl; exact rfl; first | exact q) | (apply WO.pl; exact rfl; exact rfl) | (apply WO.pp; exact rfl; exact rfl)
  exact ⟨.inr rfl, rfl, rfl, rfl, _, rfl, rfl⟩
theorem e225 (C : CSr M) (v : AV) (hv : lenA .sl v = some (.int .i64 0)) (hp : Heap) : CT M (fn 225) [v, fn 226] hp ⟨.tup [], hp, []⟩ := by
  obtain ⟨r, hl⟩ := s251 C 0 (by omega) hp
  have q := e250 C v r hp
  refine ct_of_run C.n225 (run_same (by rw [C.ft]; exact ft225) (by simp) ?_)
  unfold b225
  simp only [List.map_cons, List.map_nil, List.getElem?_cons_zero, List.getElem?_cons_succ, List.getElem?_nil, Option.getD_some, Option.getD_none]
  repeat' first | apply W.seq | apply SQn | apply W.region | apply WO.nil | (apply WO.cvu; exact rfl; omega) | (apply WO.pl (v := .int .i64 0); exact hv; exact rfl) | (apply WO.ct; exact rfl; exact rfl; first | exact hl | exact q) | (apply WO.pl; exact rfl; exact rfl) | (apply WO.pp; exact rfl; exact rfl)
  exact ⟨.inl rfl, rfl, rfl, rfl, _, rfl, rfl⟩
theorem e222 (C : CSr M) (hp : Heap) : CT M (fn 222) [.nilsl, fn 224] hp ⟨.nilsl, hp, []⟩ := by
  have q : M.ext 125 [.nilsl, .fn (.func 224) [] []] hp = some ⟨.int .i64 (-1), hp, []⟩ := C.c125 [] .nilsl hp .ofNil (by decide)
  refine ct_of_run C.n222 (run_same (by rw [C.ft]; exact ft222) (by simp) ?_)
  unfold b222
  simp only [List.map_cons, List.map_nil, List.getElem?_cons_zero, List.getElem?_cons_succ, List.getElem?_nil, Option.getD_some, Option.getD_none]
  repeat' first | apply W.seq | apply SQn | apply W.region | apply WO.nil | apply W.ret | apply SQr | (apply W.condT; exact rfl) | (apply WO.eql; exact rfl; exact rfl; all_goals first | (intro _; exfalso; omega) | intro _) | (apply WO.cll; exact rfl; exact rfl; first | exact q) | (apply WO.pl; exact rfl; exact rfl) | (apply WO.pp; exact rfl; exact rfl)
  exact ⟨.inr rfl, rfl, rfl, rfl, _, rfl, rfl⟩
theorem kept_ser (l : List Int) : serL (kept l) = serL l := serF_filter
theorem kept_len (l : List Int) : (serL l).length = (kept l).length := serL_length
set_option maxHeartbeats 1000000 in
theorem w185 (C : CSr M) (l : List Int) (hl : l.length ≤ 12) (ho : ∀ y ∈ l, y < 1000000) : ∃ v hh, FrN hh v (.vs (ints (serL l)) (serL l).length none) ∧ Run M 185 [.vs (ints l) l.length cap] [] ⟨v, hh, []⟩ := by
  refine run_ofE (P := fun v hh => FrN hh v (.vs (ints (serL l)) (serL l).length none)) (by rw [C.ft]; exact ft185) (by simp) ?_
  unfold b185
  simp only [List.map_cons, List.map_nil, List.getElem?_cons_zero, List.getElem?_cons_succ, List.getElem?_nil, Option.getD_some, Option.getD_none]
  by_cases h0 : l = []
  · subst h0
    have q223 := fun h => C.c223n cap h
    have q222 := e222 C []
    have q225 := e225 C .nilsl rfl []
    repeat' first | apply W.seq | apply SQn | apply W.region | apply WO.nil | apply W.ret | (apply WO.cll; exact rfl; exact rfl; first | exact q223 _) | (apply WO.ct; exact rfl; exact rfl; first | exact q222 | exact q225) | (apply WO.pl; exact rfl; exact rfl) | (apply WO.pp; exact rfl; exact rfl)
    exact ⟨.inr rfl, rfl, _, rfl, .nil⟩
  · have q223 := fun h => C.c223 l cap h h0 (by omega)
    obtain ⟨wr, T, hw, q222⟩ := s222 (h := [none]) (b := 0) C (by decide) l (by omega) (List.length_pos_iff.2 h0)
    have q222' : CT M (fn 222) [.sl 0 0 l.length 1 none, fn 224] ([] ++ [some (.cells (ints l) 3)]) ⟨cutV 0 (kept l).length none, [some (.cells (ints (kept l ++ T)) 3)], wr⟩ := q222
    by_cases hk : kept l = []
    · have ek : serL l = [] := List.eq_nil_of_length_eq_zero (by rw [kept_len, hk]; rfl)
      rw [hk] at q222'
      have q222'' : CT M (fn 222) [.sl 0 0 l.length 1 none, fn 224] ([] ++ [some (.cells (ints l) 3)]) ⟨.vs [] 0 none, [some (.cells (ints ([] ++ T)) 3)], wr⟩ := q222'
      have q225 := e225 C (.vs [] 0 none) rfl [some (.cells (ints ([] ++ T)) 3)]
      repeat' first | apply W.seq | apply SQn | apply W.region | apply WO.nil | apply W.ret | (apply WO.cll; exact rfl; exact rfl; first | exact q223 _) | (apply WO.ct; exact rfl; exact rfl; first | exact q222'' | exact q225) | (apply WO.pl; exact rfl; exact rfl) | (apply WO.pp; exact rfl; exact rfl)
      exact ⟨.inr rfl, rfl, _, rfl, by rw [ek]; exact .same rfl rfl⟩
    · have hkl : (kept l).length ≠ 0 := fun h => hk (List.eq_nil_of_length_eq_zero h)
      rw [cutV, if_neg hkl] at q222'
      have hkle : (kept l).length ≤ l.length := List.length_filter_le _ _
      obtain ⟨wr', hw', q225⟩ := s225 (h := [none]) (b := 0) (cap := none) C (by decide) (n := (kept l).length) (by omega) (kept l) T rfl (fun y hy => by
        rw [kept, List.mem_filter] at hy
        exact ⟨by simpa using hy.2, ho y hy.1⟩)
      have q225' : CT M (fn 225) [.sl 0 0 (kept l).length 1 none, fn 226] [some (.cells (ints (kept l ++ T)) 3)] ⟨.tup [], [some (.cells (ints (serL (kept l) ++ T)) 3)], wr'⟩ := q225
      repeat' first | apply W.seq | apply SQn | apply W.region | apply WO.nil | apply W.ret | (apply WO.cll; exact rfl; exact rfl; first | exact q223 _) | (apply WO.ct; exact rfl; exact rfl; first | exact q222' | exact q225') | (apply WO.pl; exact rfl; exact rfl) | (apply WO.pp; exact rfl; exact rfl)
      refine ⟨.inr rfl, rfl, _, rfl, [0], ?_, rfl, fun b l' e hb hl => ?_⟩
      rotate_left
      · rw [List.mem_singleton.1 hb] at hl
        cases hl
        exact novL_arr (fun _ => rfl) _
      have hc := arr_cut (f := inC) (esz := 1) (fun _ => rfl) (l := serL (kept l) ++ T) (i := 0) (n := (kept l).length) (by rw [List.length_append, kept_ser, kept_len]; omega)
      rw [Nat.zero_mul, List.drop_zero, show (serL (kept l) ++ T).take (kept l).length = serL l by rw [kept_ser, ← kept_len, List.take_left]] at hc
      rw [kept_len]
      refine .sl (List.mem_singleton.2 rfl) (l := ints (serL (kept l) ++ T)) (e := 3) rfl hc rfl (fun i x y hx hy => ?_)
      obtain rfl : x = y := Option.some.inj (hx.symm.trans hy)
      exact .same (by have := topL_le (n := 0) (Nat.le_of_eq (top_ints (serL l))) i x hx; omega)
abbrev lsC (x : List Int) : List AV := [.vs (ints x) x.length none]
theorem countP_take {α : Type} [Inhabited α] {p : α → Bool} {l : List α} {i : Nat} (h : i < l.length) : (l.take (i + 1)).countP p = (l.take i).countP p + if p l[i]! then 1 else 0 := by
  rw [take_snoc' h, List.countP_append, List.countP_singleton]
theorem ranksL_take {ls : List (List Int)} {i : Nat} (h : i < ls.length) : (ranksL ls).take (i + 1) = (ranksL ls).take i ++ [rankOf ls ls[i]!] := by
  have h' : i < (ranksL ls).length := by simpa [ranksL] using h
  rw [take_snoc' h']
  congr 2
  rw [getElem!_pos _ i h', getElem!_pos ls i h]; simp [ranksL]
theorem ranksL_len (ls : List (List Int)) : (ranksL ls).length = ls.length := by simp [ranksL]
set_option maxHeartbeats 1000000 in
theorem w77 (hft : M.FT = FT) (c78 : ∀ (r : Row) h, r.tr.length < 1000000 → M.ext 78 [.agg (rowC r)] h = some ⟨.vs (ints (serL r.tr)) (serL r.tr).length none, h, []⟩) (c127 : ∀ (a b : List Int) c1 c2 h, a.length < 1000000 → M.ext 127 [.vs (ints a) a.length c1, .vs (ints b) b.length c2] h = some ⟨.bool (lexGt a b), h, []⟩)
    (l : List Row) (hl : l.length < 1000000) (hL : ∀ r ∈ l, r.tr.length < 1000000) : ∃ v hh, FrN hh v (.vs (ints (ranksL (l.map Row.tr))) l.length none) ∧ Run M 77 [.vs (rowsC l) l.length cap] [] ⟨v, hh, []⟩ := by
  obtain ⟨ls, hls⟩ : ∃ ls, ls = l.map Row.tr := ⟨_, rfl⟩
  have hll : ls.length = l.length := by rw [hls]; simp
  have hget : ∀ i, i < l.length → ls[i]! = (l[i]!).tr := fun i hi => by
    rw [getElem!_pos ls i (by omega), getElem!_pos l i hi]; simp [hls]
  have hser : ∀ i, i < l.length → (serL (l[i]!).tr).length < 1000000 := fun i hi => by
    rw [kept_len]
    have := List.length_filter_le (fun x : Int => decide (0 ≤ x)) (l[i]!).tr
    have h2 := hL (l[i]!) (by rw [getElem!_pos l i hi]; exact List.getElem_mem hi)
    unfold kept; omega
  rw [← hls]
  refine run_ofE (P := fun v hh => FrN hh v (.vs (ints (ranksL ls)) l.length none)) (by rw [hft]; exact ft77) (by simp) ?_
  unfold b77
  simp only [List.map_cons, List.map_nil, List.getElem?_cons_zero, List.getElem?_cons_succ, List.getElem?_nil, Option.getD_some, Option.getD_none]
  repeat' first | apply W.seq | apply SQn | apply W.region | apply WO.nil | apply W.block | (apply WO.pp; exact rfl; exact rfl)
  refine W.loopI l.length (fun i s => ∃ o a4 a5 a6 lo K wr, s = ⟨⟨[.vs (rowsC l) l.length cap, .nilsl, o, .int .i64 i, a4, a5, a6], lo, K, []⟩, wr⟩ ∧ OutE inC 1 3 K o ((ranksL ls).take i) []) (fun i s hi ⟨o, a4, a5, a6, lo, K, wr, hs, ho⟩ => ?_) (fun s ⟨o, a4, a5, a6, lo, K, wr, hs, ho⟩ => ?_) (Nat.zero_le _) ⟨_, _, _, _, _, _, _, rfl, .ofNil⟩
  · subst hs
    have q78 := fun h => c78 l[((i : Int)).toNat]! h (hL _ (by rw [Int.toNat_natCast, getElem!_pos l i hi]; exact List.getElem_mem hi))
    have hs1 := hser i hi
    have hr : rankOf ls ls[i]! = if serL (l[i]!).tr = [] then (0 : Int) else 1 + ((ls.countP fun y => lexGt (serL y) (serL (l[i]!).tr) : Nat) : Int) := by rw [rankOf, hget i hi]
    have etk := ranksL_take (ls := ls) (i := i) (by omega)
    rw [show (l[i]!).tr = (l[((i : Int)).toNat]!).tr from rfl] at hr hs1
    obtain ⟨S, hS⟩ : ∃ S, S = serL (l[((i : Int)).toNat]!).tr := ⟨_, rfl⟩
    rw [← hS] at hr hs1 q78
    unfold b77_1
    by_cases h0 : S = []
    · rw [if_pos h0] at hr
      have hl0 : (S.length : Int) = 0 := by rw [h0]; rfl
      repeat' first | apply W.seq | apply SQn | apply W.region | apply WO.nil | apply W.block | apply W.skip | (apply W.condT; exact rfl) | (apply W.condF; exact rfl) | (apply WO.lss; exact rfl; exact rfl; all_goals first | (intro _; exfalso; omega) | intro _) | (apply WO.gtr; exact rfl; exact rfl; all_goals first | (intro _; exfalso; omega) | intro _) | (apply WO.cll; exact rfl; exact rfl; first | exact q78 _) | (apply WO.iav; exact rfl; exact rfl; omega) | (apply WO.lda; exact rfl; exact fun _ => rfl; (first | omega | (simp only [List.length_set]; omega) | (simp; omega)); decide; exact rfl; case ia => infer_instance) | (apply WO.hlv; exact rfl; exact rfl; exact rfl) | (apply WO.pl; exact rfl; exact rfl) | (apply WO.pp; exact rfl; exact rfl)
      refine OutE.app (f := inC) (m := [0]) (S := []) (fun _ => rfl) (fun _ => rfl) (by decide) (ho.grow [_]) (by simp) rfl rfl (Sl.ofAt (f := inC) (esz := 1) (l := [0]) (e := 3) (fun _ => rfl) at_new rfl) (by rw [List.length_take, ranksL_len]; unfold roomLimit; simp; omega) (fun H w' o' ho' _ _ => ?_)
      repeat' first | apply SQn | apply W.region | apply WO.nil | apply BQn | (apply WO.add; exact rfl; exact rfl; omega) | (apply WO.pl; exact rfl; exact rfl) | (apply WO.pp; exact rfl; exact rfl)
      exact LIn ⟨_, _, _, _, _, _, _, rfl, by rw [etk, hr]; exact ho'⟩
    · rw [if_neg h0] at hr
      have hl0 : 0 < (S.length : Int) := by have := List.length_pos_iff.2 h0; omega
      repeat' first | apply W.seq | apply SQn | apply W.region | apply WO.nil | apply W.block | apply W.skip | (apply W.condT; exact rfl) | (apply WO.lss; exact rfl; exact rfl; all_goals first | (intro _; exfalso; omega) | intro _) | (apply WO.gtr; exact rfl; exact rfl; all_goals first | (intro _; exfalso; omega) | intro _) | (apply WO.cll; exact rfl; exact rfl; first | exact q78 _) | (apply WO.iav; exact rfl; exact rfl; omega) | (apply WO.lda; exact rfl; exact fun _ => rfl; (first | omega | (simp only [List.length_set]; omega) | (simp; omega)); decide; exact rfl; case ia => infer_instance) | (apply WO.pl; exact rfl; exact rfl) | (apply WO.pp; exact rfl; exact rfl)
      refine W.loopI l.length (fun k s => ∃ lo wr, s = ⟨⟨[.vs (rowsC l) l.length cap, .nilsl, o, .int .i64 i, .vs (ints S) S.length none, .int .i64 (1 + ((ls.take k).countP fun y => lexGt (serL y) S : Nat)), .int .i64 k], lo, K, []⟩, wr⟩) (fun k s hk ⟨lo, wr, hs⟩ => ?_) (fun s ⟨lo, wr, hs⟩ => ?_) (Nat.zero_le _) ⟨_, _, rfl⟩
      · subst hs
        have q78k := fun h => c78 l[((k : Int)).toNat]! h (hL _ (by rw [Int.toNat_natCast, getElem!_pos l k hk]; exact List.getElem_mem hk))
        have hsk := hser k hk
        rw [show (l[k]!).tr = (l[((k : Int)).toNat]!).tr from rfl] at hsk
        have q127 := fun h => c127 (serL (l[((k : Int)).toNat]!).tr) S none none h hsk
        have ec := countP_take (p := fun y => lexGt (serL y) S) (l := ls) (i := k) (by omega)
        rw [hget k hk, show (l[k]!).tr = (l[((k : Int)).toNat]!).tr from rfl] at ec
        have hcl : (ls.take k).countP (fun y => lexGt (serL y) S) ≤ k := Nat.le_trans List.countP_le_length (by rw [List.length_take]; omega)
        unfold b77_0
        cases hg : lexGt (serL (l[((k : Int)).toNat]!).tr) S
        · rw [hg] at q127 ec
          repeat' first | apply W.seq | apply SQn | apply W.region | apply WO.nil | apply W.block | apply W.skip | apply BQn | (apply W.condT; exact rfl) | (apply W.condF; exact rfl) | (apply WO.lss; exact rfl; exact rfl; all_goals first | (intro _; exfalso; omega) | intro _) | (apply WO.add; exact rfl; exact rfl; omega) | (apply WO.cll; exact rfl; exact rfl; first | exact q78k _ | exact q127 _) | (apply WO.iav; exact rfl; exact rfl; omega) | (apply WO.lda; exact rfl; exact fun _ => rfl; (first | omega | (simp only [List.length_set]; omega) | (simp; omega)); decide; exact rfl; case ia => infer_instance) | (apply WO.pl; exact rfl; exact rfl) | (apply WO.pp; exact rfl; exact rfl)
          rw [ec]
          exact LIn ⟨_, _, rfl⟩
        · rw [hg] at q127 ec
          repeat' first | apply W.seq | apply SQn | apply W.region | apply WO.nil | apply W.block | apply W.skip | apply BQn | (apply W.condT; exact rfl) | (apply WO.lss; exact rfl; exact rfl; all_goals first | (intro _; exfalso; omega) | intro _) | (apply WO.add; exact rfl; exact rfl; omega) | (apply WO.cll; exact rfl; exact rfl; first | exact q78k _ | exact q127 _) | (apply WO.iav; exact rfl; exact rfl; omega) | (apply WO.lda; exact rfl; exact fun _ => rfl; (first | omega | (simp only [List.length_set]; omega) | (simp; omega)); decide; exact rfl; case ia => infer_instance) | (apply WO.pl; exact rfl; exact rfl) | (apply WO.pp; exact rfl; exact rfl)
          rw [ec]
          exact LIn ⟨_, _, by rw [if_pos rfl]; congr 3⟩
      · subst hs
        rw [List.take_of_length_le (by omega)]
        rw [← hr]
        generalize rankOf ls ls[i]! = v at *
        unfold b77_0
        repeat' first | apply W.seq | apply SQn | apply W.region | apply WO.nil | apply W.exit | apply SQe | apply BQe | apply LIe | (apply W.condF; exact rfl) | (apply WO.lss; exact rfl; exact rfl; all_goals first | (intro _; exfalso; omega) | intro _) | (apply WO.hlv; exact rfl; exact rfl; exact rfl) | (apply WO.pl; exact rfl; exact rfl)
        refine OutE.app (f := inC) (m := [v]) (S := []) (fun _ => rfl) (fun _ => rfl) (by decide) (ho.grow [_]) (by simp) rfl rfl (Sl.ofAt (f := inC) (esz := 1) (l := [v]) (e := 3) (fun _ => rfl) at_new rfl) (by rw [List.length_take, ranksL_len]; unfold roomLimit; simp; omega) (fun H w' o' ho' _ _ => ?_)
        repeat' first | apply SQn | apply W.region | apply WO.nil | apply BQn | (apply WO.add; exact rfl; exact rfl; omega) | (apply WO.pl; exact rfl; exact rfl) | (apply WO.pp; exact rfl; exact rfl)
        exact LIn ⟨_, _, _, _, _, _, _, rfl, by rw [etk, show v = v from rfl]; exact ho'⟩
  · subst hs
    rw [show (ranksL ls).take l.length = ranksL ls from List.take_of_length_le (by rw [ranksL_len]; omega)] at ho
    unfold b77_1
    repeat' first | apply W.seq | apply SQn | apply W.region | apply WO.nil | apply W.ret | apply W.exit | apply SQe | apply BQe | apply LIe | (apply W.condF; exact rfl) | (apply WO.lss; exact rfl; exact rfl; all_goals first | (intro _; exfalso; omega) | intro _) | (apply WO.pl; exact rfl; exact rfl) | (apply WO.pp; exact rfl; exact rfl)
    refine ⟨.inr rfl, rfl, _, rfl, ?_⟩
    have := ho.finN (f := inC) (esz := 1) (fun _ => rfl) (fun _ => rfl) (fun _ => rfl)
    rw [ranksL_len, hll] at this
    exact this
end Go.Ab.Ch6

/-
  Own work: chapter 6: ranks by the program; finalists by both.
-/
namespace Go.Ab.Ch6
variable {M : Mach} {cap c1 c2 : Option Nat}
abbrev listsC (ls : List (List Int)) : List AV := arr lsC ls
def fineT (l : List Int) : Prop := l.length ≤ 12 ∧ ∀ y ∈ l, y < 1000000
theorem set_mid {A B : List Int} {x y : Int} {j : Nat} (hj : j = A.length) : (A ++ x :: B).set j y = A ++ y :: B := by
  subst hj
  rw [List.set_append_right _ _ (Nat.le_refl _), Nat.sub_self]; rfl
set_option maxHeartbeats 1000000 in
theorem w123 (hft : M.FT = FT) (c185 : ∀ (l : List Int) h, fineT l → M.ext 185 [.vs (ints l) l.length none] h = some ⟨.vs (ints (serL l)) (serL l).length none, h, []⟩) (c139 : ∀ (a b : List Int) c1 c2 h, a.length < 1000000 → M.ext 139 [.vs (ints a) a.length c1, .vs (ints b) b.length c2] h = some ⟨.int .i64 (cmpL a b), h, []⟩)
    (ls : List (List Int)) (hl : ls.length < 1000000) (hL : ∀ x ∈ ls, fineT x) : ∃ v hh, FrN hh v (.vs (ints (ranksL ls)) ls.length none) ∧ Run M 123 [.vs (listsC ls) ls.length cap] [] ⟨v, hh, []⟩ := by
  have hget : ∀ i, i < ls.length → fineT ls[i]! := fun i hi => hL _ (by rw [getElem!_pos ls i hi]; exact List.getElem_mem hi)
  have hser : ∀ i, i < ls.length → (serL ls[i]!).length < 1000000 := fun i hi => by
    rw [kept_len]
    have := List.length_filter_le (fun x : Int => decide (0 ≤ x)) ls[i]!
    have := (hget i hi).1
    unfold kept; omega
  have hrl := ranksL_len ls
  refine run_ofE (P := fun v hh => FrN hh v (.vs (ints (ranksL ls)) ls.length none)) (by rw [hft]; exact ft123) (by simp) ?_
  unfold b123
  simp only [List.map_cons, List.map_nil, List.getElem?_cons_zero, List.getElem?_cons_succ, List.getElem?_nil, Option.getD_some, Option.getD_none]
  repeat' first | apply W.seq | apply SQn | apply W.region | apply WO.nil | apply W.block | (apply WO.mki; exact rfl; exact rfl; omega) | (apply WO.pl; exact rfl; exact rfl) | (apply WO.pp; exact rfl; exact rfl)
  refine W.loopI ls.length (fun i s => ∃ a3 a4 a5 a6 a10 a11 a12 lo wr, s = ⟨⟨[.vs (listsC ls) ls.length cap, .nilsl, .sl 0 0 ls.length 1 (some ls.length), a3, a4, a5, a6, .vs (listsC ls) ls.length cap, .int .i64 ls.length, .int .i64 i, a10, a11, a12], lo, [some (.cells (ints ((ranksL ls).take i ++ List.replicate (ls.length - i) 0)) 3)], []⟩, wr⟩) (fun i s hi ⟨a3, a4, a5, a6, a10, a11, a12, lo, wr, hs⟩ => ?_) (fun s ⟨a3, a4, a5, a6, a10, a11, a12, lo, wr, hs⟩ => ?_) (Nat.zero_le _) ⟨_, _, _, _, _, _, _, _, _, rfl⟩
  · subst hs
    have etk := ranksL_take (ls := ls) (i := i) hi
    have htl : ((ranksL ls).take i).length = i := by rw [List.length_take]; omega
    have q185 := fun h => c185 ls[((i : Int)).toNat]! h (hget i hi)
    have hs1 := hser i hi
    have hr : rankOf ls ls[i]! = if serL ls[((i : Int)).toNat]! = [] then (0 : Int) else 1 + ((ls.countP fun y => lexGt (serL y) (serL ls[((i : Int)).toNat]!) : Nat) : Int) := rfl
    rw [show ls[i]! = ls[((i : Int)).toNat]! from rfl] at hs1
    obtain ⟨S, hS⟩ : ∃ S, S = serL ls[((i : Int)).toNat]! := ⟨_, rfl⟩
    rw [← hS] at hr hs1 q185
    have erep : List.replicate (ls.length - i) (0 : Int) = 0 :: List.replicate (ls.length - (i + 1)) 0 := by
      rw [show ls.length - i = ls.length - (i + 1) + 1 by omega, List.replicate_succ]
    rw [erep]
    obtain ⟨A, hA⟩ : ∃ A, A = (ranksL ls).take i := ⟨_, rfl⟩
    obtain ⟨R, hR⟩ : ∃ R, R = List.replicate (ls.length - (i + 1)) (0 : Int) := ⟨_, rfl⟩
    rw [etk, ← hA, ← hR]
    rw [← hA] at htl
    have hRl : R.length = ls.length - (i + 1) := by rw [hR, List.length_replicate]
    unfold b123_1
    by_cases h0 : S = []
    · rw [if_pos h0] at hr
      have hl0 : (S.length : Int) = 0 := by rw [h0]; rfl
      repeat' first | apply W.seq | apply SQn | apply W.region | apply WO.nil | apply W.block | apply W.exit | apply W.skip | apply SQe | apply BQe | (apply W.condT; exact rfl) | (apply WO.lss; exact rfl; exact rfl; all_goals first | (intro _; exfalso; omega) | intro _) | (apply WO.eql; exact rfl; exact rfl; all_goals first | (intro _; exfalso; omega) | intro _) | (apply WO.add; exact rfl; exact rfl; omega) | (apply WO.cll; exact rfl; exact rfl; first | exact q185 _) | (apply WO.iav; exact rfl; exact rfl; omega) | (apply WO.lda; exact rfl; exact fun _ => rfl; (first | omega | (simp only [List.length_set]; omega) | (simp; omega)); decide; exact rfl; case ia => infer_instance) | (apply WO.pl; exact rfl; exact rfl) | (apply WO.pp; exact rfl; exact rfl)
      rw [hr]
      exact LIn ⟨_, _, _, _, _, _, _, _, _, by rw [List.append_assoc]; rfl⟩
    · rw [if_neg h0] at hr
      have hl0 : (S.length : Int) ≠ 0 := by have := List.length_pos_iff.2 h0; omega
      have b1 : ((i : Int)).toNat < (A ++ 0 :: R).length := by simp; omega
      repeat' first | apply W.seq | apply SQn | apply W.region | apply WO.nil | apply W.block | apply W.skip | (apply W.condT; exact rfl) | (apply W.condF; exact rfl) | (apply WO.lss; exact rfl; exact rfl; all_goals first | (intro _; exfalso; omega) | intro _) | (apply WO.eql; exact rfl; exact rfl; all_goals first | (intro _; exfalso; omega) | intro _) | (apply WO.cll; exact rfl; exact rfl; first | exact q185 _) | (apply WO.iav; exact rfl; exact rfl; omega) | (apply WO.ias; exact rfl; exact rfl; omega) | (apply WO.lda; exact rfl; exact fun _ => rfl; (first | omega | (simp only [List.length_set]; omega) | (simp; omega)); decide; exact rfl; case ia => infer_instance) | (apply WO.sta; exact rfl; exact rfl; (first | exact rfl | assumption | exact at_new | (apply at_old; assumption) | (apply at_put; first | assumption | (simp only [put_length]; assumption))); exact fun _ => rfl; (first | omega | (simp only [List.length_set]; omega) | (simp; omega)); exact ⟨rfl, by decide, rfl⟩; exact rfl; case ia => infer_instance) | (apply WO.pl; exact rfl; exact rfl) | (apply WO.pp; exact rfl; exact rfl)
      rw [show (A ++ 0 :: R).set ((i : Int)).toNat 1 = A ++ 1 :: R from set_mid (by omega)]
      refine W.loopI ls.length (fun k s => ∃ a6 lo wr, s = ⟨⟨[.vs (listsC ls) ls.length cap, .nilsl, .sl 0 0 ls.length 1 (some ls.length), .int .i64 i, .vs (ints ls[((i : Int)).toNat]!) (ls[((i : Int)).toNat]!).length none, .vs (ints S) S.length none, a6, .vs (listsC ls) ls.length cap, .int .i64 ls.length, .int .i64 i, .vs (listsC ls) ls.length cap, .int .i64 ls.length, .int .i64 k], lo, [some (.cells (ints (A ++ ((1 : Int) + (((ls.take k).countP fun y => lexGt (serL y) S : Nat) : Int)) :: R)) 3)], []⟩, wr⟩) (fun k s hk ⟨a6, lo, wr, hs⟩ => ?_) (fun s ⟨a6, lo, wr, hs⟩ => ?_) (Nat.zero_le _) ⟨_, _, _, rfl⟩
      · subst hs
        have q185k := fun h => c185 ls[((k : Int)).toNat]! h (hget k hk)
        have hsk := hser k hk
        rw [show ls[k]! = ls[((k : Int)).toNat]! from rfl] at hsk
        have q139 := fun h => c139 (serL ls[((k : Int)).toNat]!) S none none h hsk
        have ec := countP_take (p := fun y => lexGt (serL y) S) (l := ls) (i := k) hk
        rw [show ls[k]! = ls[((k : Int)).toNat]! from rfl] at ec
        have hcl : (ls.take k).countP (fun y => lexGt (serL y) S) ≤ k := Nat.le_trans List.countP_le_length (by rw [List.length_take]; omega)
        have hgt := cmpL_gt (serL ls[((k : Int)).toNat]!) S
        generalize hc : ((ls.take k).countP fun y => lexGt (serL y) S) = c at *
        have b2 : ((i : Int)).toNat < (A ++ (1 + (c : Int)) :: R).length := by simp; omega
        have g2 : (A ++ (1 + (c : Int)) :: R)[((i : Int)).toNat]! = 1 + c := get_at (by omega)
        unfold b123_0
        cases hg : lexGt (serL ls[((k : Int)).toNat]!) S
        · rw [hg] at hgt ec
          have hle : cmpL (serL ls[((k : Int)).toNat]!) S ≤ 0 := by
            rcases Int.lt_or_le 0 (cmpL (serL ls[((k : Int)).toNat]!) S) with h | h
            · exact absurd (hgt.1 h) (by simp)
            · exact h
          repeat' first | apply W.seq | apply SQn | apply W.region | apply WO.nil | apply W.block | apply W.skip | apply BQn | (apply W.condT; exact rfl) | (apply W.condF; exact rfl) | (apply WO.lss; exact rfl; exact rfl; all_goals first | (intro _; exfalso; omega) | intro _) | (apply WO.gtr; exact rfl; exact rfl; all_goals first | (intro _; exfalso; omega) | intro _) | (apply WO.add; exact rfl; exact rfl; omega) | (apply WO.cll; exact rfl; exact rfl; first | exact q185k _ | exact q139 _) | (apply WO.iav; exact rfl; exact rfl; omega) | (apply WO.lda; exact rfl; exact fun _ => rfl; (first | omega | (simp only [List.length_set]; omega) | (simp; omega)); decide; exact rfl; case ia => infer_instance) | (apply WO.pl; exact rfl; exact rfl) | (apply WO.pp; exact rfl; exact rfl)
          rw [ec]
          exact LIn ⟨_, _, _, rfl⟩
        · rw [hg] at hgt ec
          have hlt := hgt.2 rfl
          repeat' first | apply W.seq | apply SQn | apply W.region | apply WO.nil | apply W.block | apply W.skip | apply BQn | (apply W.condT; exact rfl) | (apply WO.lss; exact rfl; exact rfl; all_goals first | (intro _; exfalso; omega) | intro _) | (apply WO.gtr; exact rfl; exact rfl; all_goals first | (intro _; exfalso; omega) | intro _) | (apply WO.add; exact rfl; exact rfl; omega) | (apply WO.cll; exact rfl; exact rfl; first | exact q185k _ | exact q139 _) | (apply WO.iav; exact rfl; exact rfl; omega) | (apply WO.ias; exact rfl; exact rfl; omega) | (apply WO.lda; exact rfl; exact fun _ => rfl; (first | omega | (simp only [List.length_set]; omega) | (simp; omega)); decide; exact rfl; case ia => infer_instance) | (apply WO.lsa; exact rfl; (first | exact rfl | assumption | exact at_new | (apply at_old; assumption) | (apply at_put; first | assumption | (simp only [put_length]; assumption))); exact fun _ => rfl; (first | omega | (simp only [List.length_set]; omega) | (simp; omega)); decide; exact rfl; case ia => infer_instance) | (apply WO.sta; exact rfl; exact rfl; (first | exact rfl | assumption | exact at_new | (apply at_old; assumption) | (apply at_put; first | assumption | (simp only [put_length]; assumption))); exact fun _ => rfl; (first | omega | (simp only [List.length_set]; omega) | (simp; omega)); exact ⟨rfl, by decide, rfl⟩; exact rfl; case ia => infer_instance) | (apply WO.pl; exact rfl; exact rfl) | (apply WO.pp; exact rfl; exact rfl)
          rw [ec, g2, show (A ++ (1 + (c : Int)) :: R).set ((i : Int)).toNat (1 + (c : Int) + 1) = A ++ (1 + (c : Int) + 1) :: R from set_mid (by omega)]
          exact LIn ⟨_, _, _, by rw [if_pos rfl, show (1 : Int) + ((c + 1 : Nat) : Int) = 1 + (c : Int) + 1 by omega]; rfl⟩
      · subst hs
        rw [List.take_length]
        rw [← hr]
        unfold b123_0
        repeat' first | apply W.seq | apply SQn | apply W.region | apply WO.nil | apply W.exit | apply SQe | apply BQn | apply BQe | apply LIe | (apply W.condF; exact rfl) | (apply WO.lss; exact rfl; exact rfl; all_goals first | (intro _; exfalso; omega) | intro _) | (apply WO.add; exact rfl; exact rfl; omega) | (apply WO.pp; exact rfl; exact rfl)
        exact LIn ⟨_, _, _, _, _, _, _, _, _, by rw [List.append_assoc]; rfl⟩
  · subst hs
    rw [Nat.sub_self, List.replicate_zero, List.append_nil, List.take_of_length_le (by omega)]
    unfold b123_1
    repeat' first | apply W.seq | apply SQn | apply W.region | apply WO.nil | apply W.ret | apply W.exit | apply SQe | apply BQe | apply LIe | (apply W.condF; exact rfl) | (apply WO.lss; exact rfl; exact rfl; all_goals first | (intro _; exfalso; omega) | intro _) | (apply WO.pl; exact rfl; exact rfl) | (apply WO.pp; exact rfl; exact rfl)
    refine ⟨.inr rfl, rfl, _, rfl, [0], ?_, rfl, fun b l' e hb hl => ?_⟩
    rotate_left
    · rw [List.mem_singleton.1 hb] at hl
      cases hl
      exact novL_arr (fun _ => rfl) _
    have := frz_cells (f := inC) (esz := 1) (e := 3) (hp := [some (.cells (ints (ranksL ls)) 3)]) (c := 0) (cap := some ls.length) (fun _ => rfl) (fun _ => rfl) rfl hrl
    rw [hrl] at this
    exact this
end Go.Ab.Ch6

/-
  Own work: chapter 6: the finalists by the program.
-/
namespace Go.Ab.Ch6
open Go.Ab.Sort
variable {M : Mach} {cap c1 c2 : Option Nat}
end Go.Ab.Ch6

/-
  Own work: chapter 6: the finalists by the reference, their names by both.
-/
namespace Go.Ab.Ch6
open Go.Ab.Sort
variable {M : Mach} {cap c1 c2 : Option Nat}
end Go.Ab.Ch6

/-
  Own work: chapter 6: the finalists' names by both, the law FieldFinalists.
-/
namespace Go.Ab.Ch6
open Go.Ab.Sort
variable {M : Mach} {cap c1 c2 : Option Nat}
def finNE (names : List Str) (t : Int) (f : Int) (m : Int) (l : List Row) : List Str := if finE names t f m l = 0 then finN t f.toNat l else []
def finT (names : List Str) (t : Int) (f : Int) (m : Int) (l : List Row) : AV := .tup [.vs (strs (finNE names t f m l)) (finNE names t f m l).length none, .int .i64 (finE names t f m l)]
end Go.Ab.Ch6

/-
  Own work: chapter 6: the law FieldFinalists.
-/
namespace Go.Ab.Ch6
variable {M : Mach}
def okIn (names : List Str) (l : List Row) : Prop := (names.length < 1000 ∧ ∀ s ∈ names, s.length < 1000) ∧ l.length < 1000 ∧ ∀ r ∈ l, r.who.length < 1000 ∧ r.tr.length < 1000
theorem okIn_of {names : List Str} {l : List Row} (h1 : shortN names = true) (h2 : shortR l = true) : okIn names l := by
  unfold shortN at h1
  unfold shortR at h2
  rw [Bool.and_eq_true, decide_eq_true_eq, List.all_eq_true] at h1 h2
  refine ⟨⟨by omega, fun s hs => ?_⟩, by omega, fun r hr => ?_⟩
  · have := of_decide_eq_true (h1.2 s hs); omega
  · have := h2.2 r hr
    rw [Bool.and_eq_true, decide_eq_true_eq, decide_eq_true_eq] at this
    omega
theorem first2 (a b : Int) : firstNZ [a, b] = if a ≠ 0 then a else b := by
  simp only [firstNZ]
  by_cases h : b = 0
  · simp [h]
  · simp [h]
end Go.Ab.Ch6

/-
  Own work: chapter 6: small functions of the program's series: copies, comparisons.
-/
namespace Go.Ab.Ch6
variable {M : Mach} {cap : Option Nat}
theorem w223n (hft : M.FT = FT) : Run M 223 [.vs [] 0 cap] [] ⟨.nilsl, [], []⟩ := by
  refine run_of_W (by rw [hft]; exact ft223) (by simp) ?_
  unfold b223
  simp only [List.map_cons, List.map_nil, List.getElem?_cons_zero, List.getElem?_cons_succ, List.getElem?_nil, Option.getD_some, Option.getD_none]
  repeat' first | apply W.seq | apply SQn | apply W.region | apply WO.nil | apply W.ret | (apply WO.hlv; exact rfl; exact rfl; exact rfl) | (apply WO.pl; exact rfl; exact rfl) | (apply WO.pp; exact rfl; exact rfl)
  exact ⟨.inr rfl, rfl, _, rfl, rfl, rfl⟩
theorem w223 (hft : M.FT = FT) (l : List Int) (h0 : l ≠ []) (hl : l.length < 1000000) : Run M 223 [.vs (ints l) l.length cap] [] ⟨.sl 0 0 l.length 1 none, [some (.cells (ints l) 3)], []⟩ := by
  have hp : 0 < l.length := List.length_pos_iff.2 h0
  have hs : ∀ h, sliceCells h (.vs (ints l) l.length cap) = some (ints l, l.length) := fun _ => rfl
  have hroom : l.length * 8 ≤ roomLimit := by unfold roomLimit; omega
  refine run_of_W (by rw [hft]; exact ft223) (by simp) ?_
  unfold b223
  simp only [List.map_cons, List.map_nil, List.getElem?_cons_zero, List.getElem?_cons_succ, List.getElem?_nil, Option.getD_some, Option.getD_none]
  repeat' first | apply W.seq | apply SQn | apply W.region | apply WO.nil | apply W.ret | (apply WO.apn; exact rfl; exact rfl; exact hs _; exact ⟨(by rw [ints_len]; omega), by decide, one_ints l⟩; exact ⟨hp, hroom⟩) | (apply WO.pl; exact rfl; exact rfl) | (apply WO.pp; exact rfl; exact rfl)
  exact ⟨.inr rfl, rfl, _, rfl, rfl, rfl⟩
theorem w224 (hft : M.FT = FT) (x : Int) : Run M 224 [.int .i64 x] [] ⟨.bool (decide (x < 0)), [], []⟩ := by
  refine run_of_W (by rw [hft]; exact ft224) (by simp) ?_
  unfold b224
  simp only [List.map_cons, List.map_nil, List.getElem?_cons_zero, List.getElem?_cons_succ, List.getElem?_nil, Option.getD_some, Option.getD_none]
  by_cases h : x < 0
  · rw [decide_eq_true h]
    repeat' first | apply W.seq | apply SQn | apply W.region | apply WO.nil | apply W.ret | (apply WO.lss; exact rfl; exact rfl; all_goals first | (intro _; exfalso; omega) | intro _) | (apply WO.pl; exact rfl; exact rfl) | (apply WO.pp; exact rfl; exact rfl)
    all_goals first | (exfalso; omega) | exact ⟨.inr rfl, rfl, _, rfl, rfl, rfl⟩
  · rw [decide_eq_false h]
    repeat' first | apply W.seq | apply SQn | apply W.region | apply WO.nil | apply W.ret | (apply WO.lss; exact rfl; exact rfl; all_goals first | (intro _; exfalso; omega) | intro _) | (apply WO.pl; exact rfl; exact rfl) | (apply WO.pp; exact rfl; exact rfl)
    all_goals first | (exfalso; omega) | exact ⟨.inr rfl, rfl, _, rfl, rfl, rfl⟩
theorem w226 (hft : M.FT = FT) (x y : Int) (hx : 0 ≤ x ∧ x < 1000000) (hy : 0 ≤ y ∧ y < 1000000) : Run M 226 [.int .i64 x, .int .i64 y] [] ⟨.int .i64 (y - x), [], []⟩ := by
  refine run_of_W (by rw [hft]; exact ft226) (by simp) ?_
  unfold b226
  simp only [List.map_cons, List.map_nil, List.getElem?_cons_zero, List.getElem?_cons_succ, List.getElem?_nil, Option.getD_some, Option.getD_none]
  repeat' first | apply W.seq | apply SQn | apply W.region | apply WO.nil | apply W.ret | (apply WO.sub; exact rfl; exact rfl; omega) | (apply WO.pl; exact rfl; exact rfl) | (apply WO.pp; exact rfl; exact rfl)
  exact ⟨.inr rfl, rfl, _, rfl, rfl, rfl⟩
end Go.Ab.Ch6

/-
  Own work: the contracts of FieldFinalists as a table.
-/
namespace Go.Ab.Ch6
open Go.Proofs Go.Ab.Sort
noncomputable abbrev sC (T : List (Nat × Spec)) (g : Nat) : Spec := specC Tryz.prog FT T g
noncomputable abbrev sF (T : List (Nat × Spec)) (g : Nat) : Spec := specF Tryz.prog FT T g
theorem sC_ok {T : List (Nat × Spec)} (hT : ExtOK Tryz.prog gl (extS T)) {g : Nat} : SpecOK Tryz.prog gl g (sC T g) := specC_ok seat hT
theorem sF_ok {T : List (Nat × Spec)} (hT : ExtOK Tryz.prog gl (extS T)) {g : Nat} : SpecOK Tryz.prog gl g (sF T g) := specF_ok seat hT
variable {h : Heap}
theorem self_ints (l : List Int) : selfC h (ints l) := selfC_arr (fun _ => atoms_self rfl) l
theorem self_row (r : Row) : selfC h (rowC r) := .cons (.atom rfl) (.cons (.ofVs (self_ints r.tr)) (.cons (.atom rfl) .nil))
theorem self_ls (l : List Int) : selfC h (lsC l) := .cons (.ofVs (self_ints l)) .nil
theorem fc_ints {l : List Int} {n : Nat} {c : Option Nat} : FrC h (.vs (ints l) n c) (.vs (ints l) n c) := .ofVs (self_ints l)
theorem fc_rows {l : List Row} {n : Nat} {c : Option Nat} : FrC h (.vs (rowsC l) n c) (.vs (rowsC l) n c) := .ofVs (selfC_arr self_row l)
theorem can_ints (l : List Int) (n : Nat) : canA (.vs (ints l) n none) = .vs (ints l) n none := can_arr (fun _ => rfl) l n
theorem can_strs (l : List Str) (n : Nat) : canA (.vs (strs l) n none) = .vs (strs l) n none := can_arr (fun _ => rfl) l n
theorem can_row (r : Row) : canL (rowC r) = rowC r := by
  simp only [rowC, canL, can_ints]
  rfl
theorem vtop_ints (l : List Int) {n : Nat} {c : Option Nat} : (AV.vs (ints l) n c).top = 0 := topL_arr (fun _ => rfl) l
theorem vtop_strs (l : List Str) {n : Nat} {c : Option Nat} : (AV.vs (strs l) n c).top = 0 := topL_arr (fun _ => rfl) l
theorem vtop_rows (l : List Row) {n : Nat} {c : Option Nat} : (AV.vs (rowsC l) n c).top = 0 := topL_arr top_row l
theorem frN_out {e : TypeId} {hh : Heap} {v : AV} {l : List Str} (ho : OutL stC 1 e hh v l []) : FrN hh v (.vs (strs l) l.length none) := by
  rcases ho with ⟨rfl, rfl⟩ | ⟨c, _, _, rfl, h4⟩
  · exact .nil
  · exact ⟨[c], frz_cells (f := stC) (fun _ => rfl) (fun _ => rfl) h4 rfl, rfl, fun b l' e' hb hl => by
      rw [List.mem_singleton.1 hb, h4] at hl
      cases hl
      exact novL_arr (fun _ => rfl) l⟩
def RCp (xs : List AV) (h : Heap) (r : HR) : Prop := ∃ (l : List Int) (cap : Option Nat), xs = [.vs (ints l) l.length cap] ∧ l.length < 1000000 ∧ r = if l = [] then ⟨.nilsl, h, []⟩ else ⟨.sl h.length 0 l.length 1 none, h ++ [some (.cells (ints l) 3)], []⟩
theorem specCp_eq {l : List Int} {cap : Option Nat} {h : Heap} (hl : l.length < 1000000) : specR RCp [.vs (ints l) l.length cap] h = some (if l = [] then ⟨.nilsl, h, []⟩ else ⟨.sl h.length 0 l.length 1 none, h ++ [some (.cells (ints l) 3)], []⟩) :=
  specR_eq ⟨l, cap, rfl, hl, rfl⟩ fun r ⟨m, cap', e, _, hr⟩ => by
    simp only [List.cons.injEq, AV.vs.injEq, and_true] at e
    rw [hr, arr_inj (f := inC) (esz := 1) (fun _ => rfl) (fun a b h => by cases h; rfl) e.2.1 e.1]
theorem copy223 : SpecOK Tryz.prog gl 223 (specR RCp) := specR_ok fun xs h r ⟨l, cap, e1, hl, e2⟩ => by
  subst e1; subst e2
  have hv : FrL h [] [.vs (ints l) l.length cap] [.vs (ints l) l.length cap] := .same (by simp only [topL, vtop_ints]; rfl)
  by_cases h0 : l = []
  · subst h0
    rw [if_pos rfl]
    exact ent_run0 seat tab_nil (w223n (M := mach Tryz.prog FT []) (cap := cap) mach_ft) hv rfl (.inl rfl)
  · rw [if_neg h0]
    exact ent_run1 seat (k := 0) tab_nil (w223 (M := mach Tryz.prog FT []) (cap := cap) mach_ft l h0 hl) hv (.sl (i := 0) rfl) rfl (top_ints l) (.inr (novL_arr (fun _ => rfl) l)) (.inl rfl)
noncomputable def TA : List (Nat × Spec) := [(64, specWhen), (63, specRange), (61, specFirst), (67, specName), (126, specContains), (11, specContest), (12, specContest), (73, specNameE), (20, specFirst), (9, specShort), (10, specAwake), (76, sC TCF 76),
  (22, sC [] 22), (72, sC [] 72), (75, sC [] 75), (127, sC [] 127), (192, sC [] 192), (223, specR RCp), (224, sC [] 224), (226, sC [] 226), (78, sC [] 78), (32, sC [] 32), (34, sC [] 34), (24, sF [] 24)]
theorem TA_ok : ExtOK Tryz.prog gl (extS TA) :=
  tab_cons when64 (tab_cons range63 (tab_cons first61 (tab_cons name67 (tab_cons contains126 (tab_cons contest11 (tab_cons contest12 (tab_cons name73 (tab_cons first20 (tab_cons short9 (tab_cons awake10 (tab_cons (sC_ok TCF_ok)
    (tab_cons (sC_ok tab_nil) (tab_cons (sC_ok tab_nil) (tab_cons (sC_ok tab_nil) (tab_cons (sC_ok tab_nil) (tab_cons (sC_ok tab_nil) (tab_cons copy223 (tab_cons (sC_ok tab_nil) (tab_cons (sC_ok tab_nil) (tab_cons (sC_ok tab_nil) (tab_cons (sC_ok tab_nil) (tab_cons (sC_ok tab_nil) (tab_cons (sF_ok tab_nil) tab_nil)))))))))))))))))))))))
noncomputable abbrev m0 : Mach := mach Tryz.prog FT []
section
variable {cap c1 c2 : Option Nat}
theorem k76 {l : List Str} {v : AV} {i : Nat} (hs : Sl stC h v l) (hl : l.length < 1000000) (hL : ∀ s ∈ l, s.length < 1000000) (hi : i < l.length) : sC TCF 76 [v, .int .i64 i] h = some ⟨.int .i64 (nameE l i), h, []⟩ := by
  obtain ⟨c, hf⟩ := FrC.ofSl (fun _ => atoms_self rfl) hs
  exact specC_eq (.cons hf (atoms_self rfl)) (.of (w76 cf (fun s h hs => by
    rw [mach_ext]
    show specName [.str s] h = _
    simp only [specName, if_pos hs]) (fun l x cap h hl => by
    rw [mach_ext]
    show specContains [.vs (strs l) l.length cap, .str x] h = _
    simp only [specContains, strsAt_vs]
    rw [if_pos (by omega)]) l hl hL i hi))
theorem k22 (l : List Row) : sC [] 22 [.vs (rowsC l) l.length cap] h = some ⟨.bool (shortR l), h, []⟩ := specC_eq (.cons fc_rows .nil) (.of (w22 (M := m0) mach_ft l))
theorem k72 {l : List Row} (hl : l.length < 1000000) : sC [] 72 [.vs (rowsC l) l.length cap] h = some ⟨.vs (strs (namesR l)) (namesR l).length none, h, []⟩ :=
  specC_eq (.cons fc_rows .nil) (.new (by obtain ⟨v, hh, h1, h2⟩ := w72 (M := m0) (cap := cap) mach_ft l hl; exact ⟨v, hh, frN_out h1, h2⟩) (vtop_strs _) (can_strs _ _))
theorem k75 (x : Int) : sC [] 75 [.int .i64 x] h = some ⟨.bool (decide (x < -2 ∨ 999999 < x)), h, []⟩ := specC_eq (atoms_self rfl) (.of (w75 (M := m0) mach_ft x))
theorem k127 {a b : List Int} (hl : a.length < 1000000) : sC [] 127 [.vs (ints a) a.length c1, .vs (ints b) b.length c2] h = some ⟨.bool (lexGt a b), h, []⟩ := specC_eq (.cons fc_ints (.cons fc_ints .nil)) (.of (w127 (M := m0) mach_ft a b hl))
theorem k192 (x : Int) : sC [] 192 [.int .i64 x] h = some ⟨.bool false, h, []⟩ := specC_eq (atoms_self rfl) (.of (w192 (M := m0) mach_ft x))
theorem k224 (x : Int) : sC [] 224 [.int .i64 x] h = some ⟨.bool (decide (x < 0)), h, []⟩ := specC_eq (atoms_self rfl) (.of (w224 (M := m0) mach_ft x))
theorem k226 {x y : Int} (hx : 0 ≤ x ∧ x < 1000000) (hy : 0 ≤ y ∧ y < 1000000) : sC [] 226 [.int .i64 x, .int .i64 y] h = some ⟨.int .i64 (y - x), h, []⟩ := specC_eq (atoms_self rfl) (.of (w226 (M := m0) mach_ft x y hx hy))
theorem k78 {r : Row} (hl : r.tr.length < 1000000) : sC [] 78 [.agg (rowC r)] h = some ⟨.vs (ints (serL r.tr)) (serL r.tr).length none, h, []⟩ :=
  specC_eq (.cons (.agg rfl (self_row r).2) .nil) (.new (w78 (M := m0) mach_ft r hl) (vtop_ints _) (can_ints _ _))
theorem k24 {l : List Row} (hl : l.length < 1000000) (hL : ∀ r ∈ l, r.tr.length < 1000000) : sF [] 24 [.vs (rowsC l) l.length cap] h = some ⟨.vs (rowsC l) l.length none, h, []⟩ := by
  obtain ⟨v, hh, ⟨B, h1⟩, h2⟩ := w24 (M := m0) (cap := cap) mach_ft l hl hL
  exact specF_eq ⟨v, hh, B, h2, h1, by simp only [topL, vtop_rows]; rfl, vtop_rows _, can_arr can_row l _⟩
noncomputable def TB : List (Nat × Spec) := (125, sC TA 125) :: (142, sC TA 142) :: (77, sC TA 77) :: (26, sC TA 26) :: TA
theorem TB_ok : ExtOK Tryz.prog gl (extS TB) := tab_cons (sC_ok TA_ok) (tab_cons (sC_ok TA_ok) (tab_cons (sC_ok TA_ok) (tab_cons (sC_ok TA_ok) TA_ok)))
theorem k125 {g : FuncId} {p : Int → Bool} (cg : ∀ x h, (mach Tryz.prog FT TA).ext g [.int .i64 x] h = some ⟨.bool (p x), h, []⟩) {l : List Int} {v : AV} (hs : Sl inC h v l) (hl : l.length < 4611686018427387904) : sC TA 125 [v, .fn (.func g) [] []] h = some ⟨.int .i64 (idxP p l 0), h, []⟩ := by
  obtain ⟨c, hf⟩ := FrC.ofSl (fun _ => atoms_self rfl) hs
  exact specC_eq (.cons hf (atoms_self rfl)) (.of (w125 mach_ft cg l hl))
theorem k142 (x y : Int) : sC TA 142 [.int .i64 x, .int .i64 y] h = some ⟨.int .i64 (cmpI x y), h, []⟩ :=
  specC_eq (atoms_self rfl) (.of (w142 mach_ft (fun x h => by rw [mach_ext]; exact k192 x) x y))
theorem k77 {l : List Row} {v : AV} (hs : Sl rowC h v l) (hl : l.length < 1000000) (hL : ∀ r ∈ l, r.tr.length < 1000000) : sC TA 77 [v] h = some ⟨.vs (ints (ranksL (l.map Row.tr))) l.length none, h, []⟩ := by
  obtain ⟨c, hf⟩ := FrC.ofSl self_row hs
  exact specC_eq (.cons hf .nil) (.new (w77 mach_ft (fun r h hl => by rw [mach_ext]; exact k78 hl) (fun a b c1 c2 h hl => by rw [mach_ext]; exact k127 hl) l hl hL) (vtop_ints _) (can_ints _ _))
theorem k26 {l : List Row} (hL : ∀ r ∈ l, r.who.length < 1000000 ∧ r.tr.length < 1000000) : sC TA 26 [.vs (rowsC l) l.length cap] h = some ⟨.int .i64 (rowsE l), h, []⟩ :=
  specC_eq (.cons fc_rows .nil) (.of (w26 mach_ft (fun l cap h hl => by rw [mach_ext]; exact k72 hl) (fun l cap i h hl hL hi => by rw [mach_ext]; exact specNameE_vs hl hL hi) l hL))
theorem calls_sr : CSr (mach Tryz.prog FT TB) where
  ft := mach_ft
  n222 ars h := by rw [mach_ext]; rfl
  n225 ars h := by rw [mach_ext]; rfl
  n227 ars h := by rw [mach_ext]; rfl
  n250 ars h := by rw [mach_ext]; rfl
  n251 ars h := by rw [mach_ext]; rfl
  n282 ars h := by rw [mach_ext]; rfl
  c224 x h := by rw [mach_ext]; exact k224 x
  c226 x y h h1 h2 h3 h4 := by rw [mach_ext]; exact k226 ⟨h1, h2⟩ ⟨h3, h4⟩
  c125 l v h hs hl := by rw [mach_ext]; exact k125 (fun x h => by rw [mach_ext]; exact k224 x) hs (by omega)
  c223n cap h := by
    rw [mach_ext]
    exact specCp_eq (l := []) (by decide)
  c223 l cap h h0 hl := by
    rw [mach_ext]
    have := specCp_eq (cap := cap) (h := h) hl
    rw [if_neg h0] at this
    exact this
noncomputable def TC : List (Nat × Spec) := (74, sC TB 74) :: (139, sC TB 139) :: (185, sC TB 185) :: (82, sC TB 82) :: TB
theorem TC_ok : ExtOK Tryz.prog gl (extS TC) := tab_cons (sC_ok TB_ok) (tab_cons (sC_ok TB_ok) (tab_cons (sC_ok TB_ok) (tab_cons (sC_ok TB_ok) TB_ok)))
theorem k74 {l : List Int} (hl : l.length < 1000000) : sC TB 74 [.vs (ints l) l.length cap, .fn (.func 75) [] []] h = some ⟨.bool (farT l), h, []⟩ :=
  specC_eq (.cons fc_ints (atoms_self rfl)) (.of (w74 mach_ft (fun l cap h hl => by rw [mach_ext]; exact k125 (fun x h => by rw [mach_ext]; exact k75 x) .ofVs hl) l (by omega)))
theorem k139 {a b : List Int} (hl : a.length < 1000000) : sC TB 139 [.vs (ints a) a.length c1, .vs (ints b) b.length c2] h = some ⟨.int .i64 (cmpL a b), h, []⟩ :=
  specC_eq (.cons fc_ints (.cons fc_ints .nil)) (.of (w139 mach_ft (fun x y h => by rw [mach_ext]; exact k142 x y) a b hl))
theorem k185 {l : List Int} (hl : fineT l) : sC TB 185 [.vs (ints l) l.length cap] h = some ⟨.vs (ints (serL l)) (serL l).length none, h, []⟩ :=
  specC_eq (.cons fc_ints .nil) (.new (w185 calls_sr l hl.1 hl.2) (vtop_ints _) (can_ints _ _))
noncomputable def TD : List (Nat × Spec) := (64, specWhen) :: (63, specRange) :: (61, specFirst) :: (27, sC ((64, specWhen) :: (63, specRange) :: (61, specFirst) :: TC) 27) :: (123, sC TC 123) :: (33, sC TC 33) :: TC
theorem TD_ok : ExtOK Tryz.prog gl (extS TD) := tab_cons when64 (tab_cons range63 (tab_cons first61 (tab_cons (sC_ok (tab_cons when64 (tab_cons range63 (tab_cons first61 TC_ok)))) (tab_cons (sC_ok TC_ok) (tab_cons (sC_ok TC_ok) TC_ok)))))
theorem k27 {l : List Row} (hL : ∀ r ∈ l, r.who.length < 1000000 ∧ r.tr.length < 1000000) : sC ((64, specWhen) :: (63, specRange) :: (61, specFirst) :: TC) 27 [.vs (rowsC l) l.length cap] h = some ⟨.int .i64 (rowsE l), h, []⟩ :=
  specC_eq (.cons fc_rows .nil) (.of (w27 cf (fun l cap h hl => by rw [mach_ext]; exact k74 hl) (fun l v i h hs hl hL hi => by rw [mach_ext]; exact k76 hs hl hL hi) l hL))
theorem k123 {ls : List (List Int)} {v : AV} (hs : Sl lsC h v ls) (hl : ls.length < 1000000) (hL : ∀ x ∈ ls, fineT x) : sC TC 123 [v] h = some ⟨.vs (ints (ranksL ls)) (ranksL ls).length none, h, []⟩ := by
  obtain ⟨c, hf⟩ := FrC.ofSl self_ls hs
  rw [ranksL_len]
  exact specC_eq (.cons hf .nil) (.new (w123 mach_ft (fun l h hl => by rw [mach_ext]; exact k185 hl) (fun a b c1 c2 h hl => by rw [mach_ext]; exact k139 hl) ls hl hL) (vtop_ints _) (can_ints _ _))
end
end Go.Ab.Ch6

/-
  Own work: chapter 6: places of a ranking: their cells, their order, in plain words.
-/
namespace Go.Ab.Ch6
open Go.Ab.Sort
structure Place where
  who : Str
  rank : Int
  kind : Str
  val : Int
  why : Str
  deriving DecidableEq, Inhabited
def placeC (p : Place) : List AV := [.str p.who, .int .i64 p.rank, .str p.kind, .int .i64 p.val, .str p.why]
abbrev pf (P : List Place) (x : Int) : List AV := placeC P[x.toNat]!
def sLength : Str := [108, 101, 110, 103, 116, 104]
def sNone : Str := [110, 111, 110, 101]
def sDNS : Str := [68, 78, 83]
def sNM : Str := [78, 77]
def noWhy (idle ret : Bool) : Str := if idle && ret then sDNS else sNM
def placeOf (ls : List (List Int)) (r : Row) : Place :=
  match serL r.tr with
  | [] => ⟨r.who, rankOf ls r.tr, sNone, 0, noWhy (decide (r.tr.length = 0)) r.ret⟩
  | x :: _ => ⟨r.who, rankOf ls r.tr, sLength, x, []⟩
def placesL (l : List Row) : List Place := l.map (placeOf (l.map Row.tr))
theorem placeOf_rank (ls : List (List Int)) (r : Row) : (placeOf ls r).rank = rankOf ls r.tr := by
  unfold placeOf; split <;> rfl
theorem rank_pos {ls : List (List Int)} {x : List Int} : 0 < rankOf ls x ↔ serL x ≠ [] := by
  unfold rankOf
  split
  · rename_i h; simp [h]
  · rename_i h; constructor
    · intro _; exact h
    · intro _; omega
def withRank (P : List Place) (r : Int) : List Place := P.filter fun p => decide (p.rank = r)
def ordPR (P : List Place) : Nat → List Place
  | 0 => []
  | k + 1 => ordPR P k ++ withRank P (k + 1 : Nat)
def orderP (P : List Place) : List Place := ordPR P P.length ++ withRank P 0
def rkOf (P : List Place) (i : Int) : Int := (P[i.toNat]!).rank
def keyP (P : List Place) (i : Int) : Int := if rkOf P i = 0 then -10000000 else -rkOf P i
def idP (P : List Place) (r : Int) : List Int := (numsTo P.length).filter fun i => decide (rkOf P i = r)
def ordIR (P : List Place) : Nat → List Int
  | 0 => []
  | k + 1 => ordIR P k ++ idP P (k + 1 : Nat)
def orderI (P : List Place) : List Int := ordIR P P.length ++ idP P 0
theorem nums_map (P : List Place) : (numsTo P.length).map (fun i => P[i.toNat]!) = P := by
  apply List.ext_getElem (by rw [List.length_map, numsTo_length])
  intro i h1 h2
  have e : (numsTo P.length)[i]'(by rw [numsTo_length]; exact h2) = (i : Int) := by
    have h3 : i < (numsTo P.length).length := by rw [numsTo_length]; exact h2
    simp [numsTo]
  rw [List.getElem_map, e, Int.toNat_natCast, getElem!_pos P i h2]
theorem idP_map {P : List Place} {r : Int} : (idP P r).map (fun i => P[i.toNat]!) = withRank P r := by
  have := congrArg (List.filter fun p : Place => decide (p.rank = r)) (nums_map P)
  rw [List.filter_map] at this
  exact this
theorem ordIR_map {P : List Place} : ∀ k, (ordIR P k).map (fun i => P[i.toNat]!) = ordPR P k
  | 0 => rfl
  | k + 1 => by rw [ordIR, ordPR, List.map_append, ordIR_map k, idP_map]
theorem orderI_map {P : List Place} : (orderI P).map (fun i => P[i.toNat]!) = orderP P := by
  rw [orderI, orderP, List.map_append, ordIR_map, idP_map]
theorem idP_sd {P : List Place} {r : Int} : Sd (keyP P) (idP P r) := by
  have hp : (idP P r).Pairwise (· < ·) := numsTo_lt.filter _
  refine hp.imp_of_mem ?_
  intro a b ha hb hab
  rw [idP, List.mem_filter, decide_eq_true_eq] at ha hb
  exact .inr ⟨by unfold keyP; rw [ha.2, hb.2], hab⟩
theorem ordIR_mem {P : List Place} : ∀ {k : Nat} {i : Int}, i ∈ ordIR P k ↔ i ∈ numsTo P.length ∧ 0 < rkOf P i ∧ rkOf P i ≤ k
  | 0, i => by simp [ordIR]
  | k + 1, i => by
    rw [ordIR, List.mem_append, ordIR_mem, idP, List.mem_filter, decide_eq_true_eq]
    constructor
    · rintro (⟨h1, h2, h3⟩ | ⟨h1, h2⟩)
      · exact ⟨h1, h2, by omega⟩
      · exact ⟨h1, by omega, by omega⟩
    · rintro ⟨h1, h2, h3⟩
      by_cases h : rkOf P i = (k + 1 : Nat)
      · exact .inr ⟨h1, h⟩
      · exact .inl ⟨h1, h2, by omega⟩
theorem ordIR_sd {P : List Place} : ∀ {k : Nat}, Sd (keyP P) (ordIR P k)
  | 0 => Sd.nil
  | k + 1 => by
    rw [ordIR]
    refine Sd.app ordIR_sd idP_sd fun x hx y hy => ?_
    obtain ⟨_, h1, h2⟩ := ordIR_mem.1 hx
    rw [idP, List.mem_filter, decide_eq_true_eq] at hy
    refine .inl ?_
    unfold keyP
    rw [hy.2, if_neg (by omega), if_neg (by omega)]
    omega
theorem orderI_sd {P : List Place} (hP : P.length < 10000000) : Sd (keyP P) (orderI P) := by
  rw [orderI]
  refine Sd.app ordIR_sd idP_sd fun x hx y hy => ?_
  obtain ⟨_, h1, h2⟩ := ordIR_mem.1 hx
  rw [idP, List.mem_filter, decide_eq_true_eq] at hy
  refine .inl ?_
  unfold keyP
  rw [hy.2, if_pos rfl, if_neg (by omega)]
  omega
theorem sd_nodup {key : Int → Int} {l : List Int} (h : Sd key l) : l.Nodup := h.imp fun h e => by subst e; exact Lt.irr h
theorem order_mem {P : List Place} (hr : ∀ p ∈ P, 0 ≤ p.rank ∧ p.rank ≤ P.length) {i : Int} : i ∈ numsTo P.length ↔ i ∈ orderI P := by
  rw [orderI, List.mem_append, ordIR_mem, idP, List.mem_filter, decide_eq_true_eq]
  constructor
  · intro hi
    have hb := numsTo_mem.1 hi
    have hm : P[i.toNat]! ∈ P := by rw [getElem!_pos P _ (by omega)]; exact List.getElem_mem _
    have := hr _ hm
    by_cases h : rkOf P i = 0
    · exact .inr ⟨hi, h⟩
    · exact .inl ⟨hi, by unfold rkOf at *; omega, by unfold rkOf at *; omega⟩
  · rintro (h | h) <;> exact h.1
theorem order_nodup {P : List Place} : (orderI P).Nodup := by
  rw [orderI, List.nodup_append]
  refine ⟨sd_nodup ordIR_sd, sd_nodup idP_sd, fun a ha b hb h => ?_⟩
  subst h
  have h1 := ordIR_mem.1 ha
  rw [idP, List.mem_filter, decide_eq_true_eq] at hb
  omega
theorem order_perm {P : List Place} (hr : ∀ p ∈ P, 0 ≤ p.rank ∧ p.rank ≤ P.length) : (numsTo P.length).length = (orderI P).length :=
  ((List.perm_ext_iff_of_nodup numsTo_nodup order_nodup).2 fun i => order_mem hr).length_eq
theorem order_sorted {P : List Place} (hP : P.length < 10000000) (hr : ∀ p ∈ P, 0 ≤ p.rank ∧ p.rank ≤ P.length) {S : List Int} (hs : Sd (keyP P) S) (hp : S.Perm (numsTo P.length)) : S.map (fun i => P[i.toNat]!) = orderP P := by
  rw [← orderI_map]
  congr 1
  refine sd_unique hs (orderI_sd hP) (hp.trans ?_)
  exact (List.perm_ext_iff_of_nodup numsTo_nodup order_nodup).2 fun i => order_mem hr
theorem lexGt_self : ∀ l : List Int, lexGt l l = false
  | [] => rfl
  | x :: l => by rw [lexGt, if_neg (by omega), if_neg (by omega), lexGt_self l]
theorem rankOf_le {ls : List (List Int)} {x : List Int} (hx : x ∈ ls) : 0 ≤ rankOf ls x ∧ rankOf ls x ≤ ls.length := by
  unfold rankOf
  split
  · omega
  · have h1 : (ls.countP fun y => lexGt (serL y) (serL x)) < ls.length := by
      refine Nat.lt_of_le_of_ne List.countP_le_length fun h => ?_
      have := List.countP_eq_length.1 h x hx
      rw [lexGt_self] at this
      cases this
    omega
theorem places_len (l : List Row) : (placesL l).length = l.length := by simp [placesL]
theorem places_rank {l : List Row} : ∀ p ∈ placesL l, 0 ≤ p.rank ∧ p.rank ≤ (placesL l).length := fun p hp => by
  rw [placesL, List.mem_map] at hp
  obtain ⟨r, hr, rfl⟩ := hp
  rw [placeOf_rank, places_len]
  have := rankOf_le (ls := l.map Row.tr) (x := r.tr) (List.mem_map.2 ⟨r, hr, rfl⟩)
  rwa [List.length_map] at this
def maxF (m : Int) : List Int → Int
  | [] => m
  | x :: l => maxF (max m x) l
theorem maxF_ge : ∀ {l : List Int} {m : Int}, m ≤ maxF m l ∧ ∀ y ∈ l, y ≤ maxF m l
  | [], m => ⟨Int.le_refl _, fun y hy => by cases hy⟩
  | x :: l, m => by
    obtain ⟨h1, h2⟩ := maxF_ge (l := l) (m := max m x)
    rw [maxF]
    refine ⟨by omega, fun y hy => ?_⟩
    rcases List.mem_cons.1 hy with rfl | hy
    · omega
    · exact h2 y hy
theorem maxF_mem : ∀ {l : List Int} {m : Int}, maxF m l = m ∨ maxF m l ∈ l
  | [], m => .inl rfl
  | x :: l, m => by
    rw [maxF]
    rcases maxF_mem (l := l) (m := max m x) with h | h
    · rw [h]
      rcases Int.le_total m x with hm | hm
      · exact .inr (by rw [Int.max_eq_right hm]; simp)
      · exact .inl (Int.max_eq_left hm)
    · exact .inr (List.mem_cons_of_mem _ h)
theorem serF_mem : ∀ {l out : List Int} {y : Int}, y ∈ serF out l ↔ y ∈ out ∨ y ∈ l ∧ 0 ≤ y
  | [], out, y => by simp [serF]
  | x :: l, out, y => by
    rw [serF, serF_mem]
    split
    · rename_i hx
      constructor
      · rintro (h | ⟨h1, h2⟩)
        · exact .inl h
        · exact .inr ⟨List.mem_cons_of_mem _ h1, h2⟩
      · rintro (h | ⟨h1, h2⟩)
        · exact .inl h
        · rcases List.mem_cons.1 h1 with rfl | h1
          · omega
          · exact .inr ⟨h1, h2⟩
    · rename_i hx
      rw [insD_mem]
      constructor
      · rintro ((rfl | h) | ⟨h1, h2⟩)
        · exact .inr ⟨by simp, by omega⟩
        · exact .inl h
        · exact .inr ⟨List.mem_cons_of_mem _ h1, h2⟩
      · rintro (h | ⟨h1, h2⟩)
        · exact .inl (.inr h)
        · rcases List.mem_cons.1 h1 with rfl | h1
          · exact .inl (.inl rfl)
          · exact .inr ⟨h1, h2⟩
theorem max_series {l : List Int} {x : Int} {s : List Int} (h : serL l = x :: s) : l ≠ [] ∧ maxF l[0]! (l.drop 1) = x := by
  have hd : Desc (serL l) := serF_desc List.Pairwise.nil
  have hm : ∀ y, y ∈ serL l ↔ y ∈ l ∧ 0 ≤ y := fun y => by rw [serL, serF_mem]; simp
  rw [h] at hd hm
  have hx := (hm x).1 (by simp)
  have h0 : l ≠ [] := fun e => by rw [e] at hx; cases hx.1
  refine ⟨h0, ?_⟩
  have hl : 0 < l.length := List.length_pos_iff.2 h0
  have e : l = l[0]! :: l.drop 1 := by
    rw [getElem!_pos l 0 hl]
    have := List.drop_eq_getElem_cons hl
    rwa [List.drop_zero] at this
  generalize l[0]! = a at *
  generalize l.drop 1 = r at *
  subst e
  obtain ⟨g1, g2⟩ := maxF_ge (l := r) (m := a)
  have ge : x ≤ maxF a r := by
    rcases List.mem_cons.1 hx.1 with rfl | h
    · exact g1
    · exact g2 _ h
  have le : maxF a r ≤ x := by
    have hin : maxF a r ∈ a :: r := by
      rcases maxF_mem (l := r) (m := a) with h | h
      · rw [h]; simp
      · exact List.mem_cons_of_mem _ h
    have := (hm (maxF a r)).2 ⟨hin, by omega⟩
    rcases List.mem_cons.1 this with h | h
    · omega
    · exact (List.pairwise_cons.1 hd).1 _ h
  omega
theorem placeOf_max {ls : List (List Int)} {r : Row} (h : 0 < rankOf ls r.tr) : placeOf ls r = ⟨r.who, rankOf ls r.tr, sLength, maxF (r.tr)[0]! (r.tr.drop 1), []⟩ ∧ r.tr ≠ [] := by
  have h0 := rank_pos.1 h
  cases hs : serL r.tr with
  | nil => exact absurd hs h0
  | cons x s =>
    obtain ⟨h1, h2⟩ := max_series hs
    exact ⟨by simp only [placeOf, hs, h2], h1⟩
theorem placeOf_none {ls : List (List Int)} {r : Row} (h : ¬ 0 < rankOf ls r.tr) : placeOf ls r = ⟨r.who, rankOf ls r.tr, sNone, 0, noWhy (decide (r.tr.length = 0)) r.ret⟩ := by
  have h0 : serL r.tr = [] := Decidable.byContradiction fun hh => h (rank_pos.2 hh)
  simp only [placeOf, h0]
theorem placesL_get {l : List Row} {i : Nat} (h : i < l.length) : (placesL l)[i]! = placeOf (l.map Row.tr) l[i]! := by
  rw [getElem!_pos _ i (by rw [places_len]; exact h), getElem!_pos l i h]; simp [placesL]
end Go.Ab.Ch6

/-
  Own work: slices.SortStableFunc over arr (pf PL): what it computes, at a comparison that reads nothing of the row.
-/
namespace Go.Ab.Ch6.Srp
open Go.Ab.Sort
variable {PL : List Place} {M : Mach} {h : Heap} {b n : Nat} {cap : Option Nat} {g : AV}
def swapR : Nat → Nat → Nat → List Int → List Int
  | 0, _, _, l => l
  | r + 1, a, c, l => swapR r (a + 1) (c + 1) ((l.set a l[c]!).set c l[a]!)
theorem swapR_app : ∀ (X A Mid Y B : List Int), X.length = Y.length → swapR X.length A.length (A.length + X.length + Mid.length) (A ++ X ++ Mid ++ Y ++ B) = A ++ Y ++ Mid ++ X ++ B
  | [], A, Mid, Y, B, h => by
    obtain rfl : Y = [] := List.length_eq_zero_iff.1 h.symm
    simp [swapR]
  | x :: X, A, Mid, [], B, h => by simp at h
  | x :: X, A, Mid, y :: Y, B, h => by
    have ih := swapR_app X (A ++ [y]) (Mid ++ [x]) Y B (by simpa using h)
    have e1 : (A ++ (x :: X) ++ Mid ++ (y :: Y) ++ B)[A.length + (x :: X).length + Mid.length]! = y := by
      rw [show A ++ (x :: X) ++ Mid ++ (y :: Y) ++ B = (A ++ (x :: X) ++ Mid) ++ y :: (Y ++ B) by simp]
      rw [List.getElem!_eq_getElem?_getD, List.getElem?_append_right (by simp; omega)]
      rw [show A.length + (x :: X).length + Mid.length - (A ++ (x :: X) ++ Mid).length = 0 by simp; omega]
      rfl
    have e2 : (A ++ (x :: X) ++ Mid ++ (y :: Y) ++ B)[A.length]! = x := by
      rw [show A ++ (x :: X) ++ Mid ++ (y :: Y) ++ B = A ++ x :: (X ++ Mid ++ (y :: Y) ++ B) by simp]
      rw [List.getElem!_eq_getElem?_getD, List.getElem?_append_right (Nat.le_refl _), Nat.sub_self]
      rfl
    have e3 : ((A ++ (x :: X) ++ Mid ++ (y :: Y) ++ B).set A.length y).set (A.length + (x :: X).length + Mid.length) x = A ++ [y] ++ X ++ (Mid ++ [x]) ++ Y ++ B := by
      rw [show A ++ (x :: X) ++ Mid ++ (y :: Y) ++ B = A ++ x :: (X ++ Mid ++ (y :: Y) ++ B) by simp]
      rw [List.set_append_right _ _ (Nat.le_refl _), Nat.sub_self, List.set_cons_zero]
      rw [show A ++ y :: (X ++ Mid ++ (y :: Y) ++ B) = (A ++ y :: (X ++ Mid)) ++ y :: (Y ++ B) by simp]
      rw [List.set_append_right _ _ (by simp; omega), show A.length + (x :: X).length + Mid.length - (A ++ y :: (X ++ Mid)).length = 0 by simp; omega, List.set_cons_zero]
      simp
    rw [List.length_cons, swapR, ← (@List.length_cons _ x X), e1, e2, e3]
    rw [show A.length + 1 = (A ++ [y]).length by simp, show A.length + (x :: X).length + Mid.length + 1 = (A ++ [y]).length + X.length + (Mid ++ [x]).length by simp; omega, ih]
    simp
theorem loop284 (hb : b < h.length) (hn : n < 2305843009213693952) (a c k : Nat) (hac : a + k ≤ n) (hc : c + k ≤ n) {Q : Ex → StW → Prop} : ∀ (r i : Nat), i + r = k → ∀ (l : List Int) (lo : List (Nat × AV)) (wr : List Nat), l.length = n → Only b wr →
    (∀ lo wr, Only b wr → Q (.exit 0) ⟨⟨[.sl b 0 n 5 cap, .int .i64 a, .int .i64 c, .int .i64 k, g, .int .i64 k], lo, h.put b (some (.cells (arr (pf PL) (swapR r (a + i) (c + i) l)) 116)), []⟩, wr⟩) →
    W M (.loop b284_0) ⟨⟨[.sl b 0 n 5 cap, .int .i64 a, .int .i64 c, .int .i64 k, g, .int .i64 i], lo, h.put b (some (.cells (arr (pf PL) l) 116)), []⟩, wr⟩ Q
  | 0, i, hi, l, lo, wr, hl, hw, hQ => by
    obtain rfl : i = k := by omega
    refine W.loop ?_
    unfold b284_0
    repeat' first | apply W.seq | apply SQn | apply W.region | apply WO.nil | apply W.exit | apply SQe | apply LQe | (apply W.condF; exact rfl) | (apply WO.lss; exact rfl; exact rfl; all_goals first | (intro _; exfalso; omega) | intro _) | (apply WO.pl; exact rfl; exact rfl)
    · exact hQ _ _ hw
  | r + 1, i, hi, l, lo, wr, hl, hw, hQ => by
    have f1 : ((a : Int) + (i : Int)).toNat = a + i := by omega
    have f2 : ((c : Int) + (i : Int)).toNat = c + i := by omega
    have hli : a + i < l.length := by omega
    have hlc : c + i < l.length := by omega
    refine W.loop ?_
    unfold b284_0
    repeat' first | apply W.seq | apply SQn | apply W.region | apply WO.nil | apply W.block | apply W.skip | apply BQn | apply W.draw | apply WD.nil | (apply WD.pure1; exact rfl) | (apply WD.load1; exact rfl; exact rfl; exact rfl) | (apply WD.store1; exact rfl; exact rfl; exact rfl) | (apply W.condT; exact rfl) | (apply WO.lss; exact rfl; exact rfl; all_goals first | (intro _; exfalso; omega) | intro _) | (apply WO.add; exact rfl; exact rfl; omega) | (apply WO.ias; exact rfl; exact rfl; omega) | (apply WO.lsa; exact rfl; (first | exact rfl | assumption | exact at_new | (apply at_old; assumption) | (apply at_put; first | assumption | (simp only [put_length]; assumption))); exact fun _ => rfl; (first | omega | (simp only [List.length_set]; omega) | (simp; omega)); decide; exact rfl; case ia => infer_instance) | (apply WO.sta; exact rfl; exact rfl; (first | exact rfl | assumption | exact at_new | (apply at_old; assumption) | (apply at_put; first | assumption | (simp only [put_length]; assumption))); exact fun _ => rfl; (first | omega | (simp only [List.length_set]; omega) | (simp; omega)); exact ⟨rfl, by decide, rfl⟩; exact rfl; case ia => infer_instance) | (apply WO.pl; exact rfl; exact rfl) | (apply WO.pp; exact rfl; exact rfl)
    · refine LQn ?_
      rw [put_put, put_put, f1, f2]
      refine loop284 hb hn a c k hac hc r (i + 1) (by omega) _ _ _ (by simp [hl]) hw.cons.cons hQ
structure CSp (M : Mach) : Prop where
  ft : M.FT = FT
  n143 : ∀ ars h, M.ext 143 ars h = none
  n193 : ∀ ars h, M.ext 193 ars h = none
  n229 : ∀ ars h, M.ext 229 ars h = none
  n230 : ∀ ars h, M.ext 230 ars h = none
  n253 : ∀ ars h, M.ext 253 ars h = none
  n284 : ∀ ars h, M.ext 284 ars h = none
theorem r284 (C : CSp M) (hb : b < h.length) (hn : n < 2305843009213693952) {A X Mid Y B : List Int} (hX : X.length = Y.length) (hl : (A ++ X ++ Mid ++ Y ++ B).length = n) :
    ∃ wr, Only b wr ∧ CT M (fn 284) [.sl b 0 n 5 cap, .int .i64 A.length, .int .i64 (A.length + X.length + Mid.length : Nat), .int .i64 X.length, g] (h.put b (some (.cells (arr (pf PL) (A ++ X ++ Mid ++ Y ++ B)) 116))) ⟨.tup [], h.put b (some (.cells (arr (pf PL) (A ++ Y ++ Mid ++ X ++ B)) 116)), wr⟩ := by
  have hl' : A.length + X.length + Mid.length + Y.length + B.length = n := by simp at hl; omega
  obtain ⟨l', wr, hw, rfl, hr⟩ := run_put (M := M) (l := A ++ X ++ Mid ++ Y ++ B) (e := 116) (f := pf PL) (P := fun l' => l' = A ++ Y ++ Mid ++ X ++ B)
    (ars := [.sl b 0 n 5 cap, .int .i64 A.length, .int .i64 (A.length + X.length + Mid.length : Nat), .int .i64 X.length, g]) (by rw [C.ft]; exact ft284) (by simp) hb (fun _ => rfl) (by
      unfold b284
      simp only [List.map_cons, List.map_nil, List.getElem?_cons_zero, List.getElem?_cons_succ, List.getElem?_nil, Option.getD_some, Option.getD_none]
      repeat' first | apply W.seq | apply SQn | apply W.region | apply WO.nil | apply W.block | (apply WO.pp; exact rfl; exact rfl)
      refine loop284 hb hn A.length (A.length + X.length + Mid.length) X.length (by omega) (by omega) X.length 0 (by omega) _ _ _ hl Only.nil (fun lo wr hw => ?_)
      repeat' first | apply BQe
      exact ⟨.inl rfl, rfl, _, rfl, hw, by rw [Nat.add_zero, Nat.add_zero, swapR_app X A Mid Y B hX]⟩)
  exact ⟨wr, hw, ct_of_run C.n284 hr⟩
theorem loop253 (C : CSp M) (hb : b < h.length) (hn : n < 2305843009213693952) (a1 a3 : AV) (m : Nat) {Q : Ex → StW → Prop} : ∀ (k : Nat) (A U V B : List Int) (lo : List (Nat × AV)) (wr : List Nat), U.length + V.length ≤ k → U ≠ [] → V ≠ [] → A.length + U.length = m → (A ++ U ++ V ++ B).length = n → Only b wr →
    (∀ A2 U2 V2 B2 lo wr, Only b wr → U2.length = V2.length → A2.length + U2.length = m → (A2 ++ U2 ++ V2 ++ B2).length = n → A2 ++ V2 ++ U2 ++ B2 = A ++ V ++ U ++ B →
      Q (.exit 0) ⟨⟨[.sl b 0 n 5 cap, a1, .int .i64 m, a3, g, .int .i64 U2.length, .int .i64 V2.length], lo, h.put b (some (.cells (arr (pf PL) (A2 ++ U2 ++ V2 ++ B2)) 116)), []⟩, wr⟩) →
    W M (.loop b253_0) ⟨⟨[.sl b 0 n 5 cap, a1, .int .i64 m, a3, g, .int .i64 U.length, .int .i64 V.length], lo, h.put b (some (.cells (arr (pf PL) (A ++ U ++ V ++ B)) 116)), []⟩, wr⟩ Q
  | 0, A, U, V, B, lo, wr, hk, hU, hV, hm, hl, hw, hQ => absurd (List.length_eq_zero_iff.1 (by omega)) hU
  | k + 1, A, U, V, B, lo, wr, hk, hU, hV, hm, hl, hw, hQ => by
    have hu : 0 < U.length := List.length_pos_iff.2 hU
    have hv : 0 < V.length := List.length_pos_iff.2 hV
    have hl' : A.length + U.length + V.length + B.length = n := by simp at hl; omega
    refine W.loop ?_
    rcases Nat.lt_trichotomy U.length V.length with hlt | heq | hgt
    · obtain ⟨V1, V2, rfl, hV2⟩ : ∃ V1 V2, V = V1 ++ V2 ∧ V2.length = U.length := ⟨V.take (V.length - U.length), V.drop (V.length - U.length), by simp, by simp; omega⟩
      have hV1 : 0 < V1.length := by simp at hlt; omega
      obtain ⟨wr', hw', hc⟩ := r284 (g := g) (cap := cap) C hb hn (A := A) (X := U) (Mid := V1) (Y := V2) (B := B) hV2.symm (by simp at hl ⊢; omega)
      have hc' : CT M (fn 284) [.sl b 0 n 5 cap, .int .i64 ((m : Int) - (U.length : Int)), .int .i64 ((m : Int) + ((V1 ++ V2).length : Int) - (U.length : Int)), .int .i64 U.length, g] (h.put b (some (.cells (arr (pf PL) (A ++ U ++ (V1 ++ V2) ++ B)) 116))) ⟨.tup [], h.put b (some (.cells (arr (pf PL) (A ++ V2 ++ V1 ++ U ++ B)) 116)), wr'⟩ := by
        rw [show (m : Int) - (U.length : Int) = (A.length : Int) by omega, show (m : Int) + ((V1 ++ V2).length : Int) - (U.length : Int) = ((A.length + U.length + V1.length : Nat) : Int) by simp; omega]
        simpa only [List.append_assoc] using hc
      unfold b253_0
      repeat' first | apply W.seq | apply SQn | apply W.region | apply WO.nil | apply W.block | apply W.skip | apply BQn | (apply W.condT; exact rfl) | (apply W.condF; exact rfl) | (apply WO.gtr; exact rfl; exact rfl; all_goals first | (intro _; exfalso; omega) | intro _) | (apply WO.neq; exact rfl; exact rfl; all_goals first | (intro _; exfalso; omega) | intro _) | (apply WO.add; exact rfl; exact rfl; omega) | (apply WO.sub; exact rfl; exact rfl; omega) | (apply WO.ct; exact rfl; exact rfl; first | exact hc') | (apply WO.pl; exact rfl; exact rfl) | (apply WO.pp; exact rfl; exact rfl)
      refine LQn ?_
      rw [show (((V1 ++ V2).length : Int) - (U.length : Int)) = (V1.length : Int) by simp; omega, show (U.length : Int) = (V2.length : Int) by omega]
      rw [show A ++ V2 ++ V1 ++ U ++ B = A ++ V2 ++ V1 ++ (U ++ B) by simp]
      refine loop253 C hb hn a1 a3 m k A V2 V1 (U ++ B) _ _ (by simp at hk; omega) (List.length_pos_iff.1 (by omega)) (List.length_pos_iff.1 hV1) (by omega) (by simp at hl ⊢; omega) (hw'.app hw) (fun A2 U2 W2 B2 lo wr g1 g2 g3 g4 g5 => ?_)
      exact hQ A2 U2 W2 B2 lo wr g1 g2 g3 g4 (by rw [g5]; simp)
    · unfold b253_0
      repeat' first | apply W.seq | apply SQn | apply W.region | apply WO.nil | apply W.exit | apply SQe | apply LQe | (apply W.condF; exact rfl) | (apply WO.neq; exact rfl; exact rfl; all_goals first | (intro _; exfalso; omega) | intro _) | (apply WO.pl; exact rfl; exact rfl)
      exact hQ A U V B _ _ hw heq hm hl rfl
    · obtain ⟨U1, U2, rfl, hU1⟩ : ∃ U1 U2, U = U1 ++ U2 ∧ U1.length = V.length := ⟨U.take V.length, U.drop V.length, by simp, by simp; omega⟩
      have hU2 : 0 < U2.length := by simp at hgt; omega
      obtain ⟨wr', hw', hc⟩ := r284 (g := g) (cap := cap) C hb hn (A := A) (X := U1) (Mid := U2) (Y := V) (B := B) hU1 (by simp at hl ⊢; omega)
      have hc' : CT M (fn 284) [.sl b 0 n 5 cap, .int .i64 ((m : Int) - ((U1 ++ U2).length : Int)), .int .i64 m, .int .i64 V.length, g] (h.put b (some (.cells (arr (pf PL) (A ++ (U1 ++ U2) ++ V ++ B)) 116))) ⟨.tup [], h.put b (some (.cells (arr (pf PL) (A ++ V ++ U2 ++ U1 ++ B)) 116)), wr'⟩ := by
        rw [show (m : Int) - ((U1 ++ U2).length : Int) = (A.length : Int) by omega, show (m : Int) = ((A.length + U1.length + U2.length : Nat) : Int) by simp at hm ⊢; omega, ← hU1]
        simpa only [List.append_assoc] using hc
      unfold b253_0
      repeat' first | apply W.seq | apply SQn | apply W.region | apply WO.nil | apply W.block | apply W.skip | apply BQn | (apply W.condT; exact rfl) | (apply WO.gtr; exact rfl; exact rfl; all_goals first | (intro _; exfalso; omega) | intro _) | (apply WO.neq; exact rfl; exact rfl; all_goals first | (intro _; exfalso; omega) | intro _) | (apply WO.sub; exact rfl; exact rfl; omega) | (apply WO.ct; exact rfl; exact rfl; first | exact hc') | (apply WO.pl; exact rfl; exact rfl) | (apply WO.pp; exact rfl; exact rfl)
      refine LQn ?_
      rw [show (((U1 ++ U2).length : Int) - (V.length : Int)) = (U2.length : Int) by simp; omega, show (V.length : Int) = (U1.length : Int) by omega]
      rw [show A ++ V ++ U2 ++ U1 ++ B = (A ++ V) ++ U2 ++ U1 ++ B by simp]
      refine loop253 C hb hn a1 a3 m k (A ++ V) U2 U1 B _ _ (by simp at hk; omega) (List.length_pos_iff.1 hU2) (List.length_pos_iff.1 (by omega)) (by simp at hm ⊢; omega) (by simp at hl ⊢; omega) (hw'.app hw) (fun A2 X2 W2 B2 lo wr g1 g2 g3 g4 g5 => ?_)
      exact hQ A2 X2 W2 B2 lo wr g1 g2 g3 g4 (by rw [g5]; simp)
theorem r253 (C : CSp M) (hb : b < h.length) (hn : n < 2305843009213693952) {A U V B : List Int} (hU : U ≠ []) (hV : V ≠ []) (hl : (A ++ U ++ V ++ B).length = n) :
    ∃ wr, Only b wr ∧ CT M (fn 253) [.sl b 0 n 5 cap, .int .i64 A.length, .int .i64 (A.length + U.length : Nat), .int .i64 (A.length + U.length + V.length : Nat), g] (h.put b (some (.cells (arr (pf PL) (A ++ U ++ V ++ B)) 116))) ⟨.tup [], h.put b (some (.cells (arr (pf PL) (A ++ V ++ U ++ B)) 116)), wr⟩ := by
  have hl' : A.length + U.length + V.length + B.length = n := by simp at hl; omega
  obtain ⟨l', wr, hw, rfl, hr⟩ := run_put (M := M) (l := A ++ U ++ V ++ B) (e := 116) (f := pf PL) (P := fun l' => l' = A ++ V ++ U ++ B)
    (ars := [.sl b 0 n 5 cap, .int .i64 A.length, .int .i64 (A.length + U.length : Nat), .int .i64 (A.length + U.length + V.length : Nat), g]) (by rw [C.ft]; exact ft253) (by simp) hb (fun _ => rfl) (by
      unfold b253
      simp only [List.map_cons, List.map_nil, List.getElem?_cons_zero, List.getElem?_cons_succ, List.getElem?_nil, Option.getD_some, Option.getD_none]
      repeat' first | apply W.seq | apply SQn | apply W.region | apply WO.nil | apply W.block | (apply WO.sub; exact rfl; exact rfl; omega) | (apply WO.pl; exact rfl; exact rfl) | (apply WO.pp; exact rfl; exact rfl)
      rw [show (((A.length + U.length : Nat) : Int) - (A.length : Int)) = (U.length : Int) by omega, show (((A.length + U.length + V.length : Nat) : Int) - ((A.length + U.length : Nat) : Int)) = (V.length : Int) by omega]
      refine loop253 C hb hn _ _ (A.length + U.length) (U.length + V.length) A U V B _ _ (Nat.le_refl _) hU hV rfl hl Only.nil (fun A2 U2 V2 B2 lo wr g1 g2 g3 g4 g5 => ?_)
      obtain ⟨wr', hw', hc⟩ := r284 (g := g) (cap := cap) C hb hn (A := A2) (X := U2) (Mid := []) (Y := V2) (B := B2) g2 (by simpa using g4)
      have hc' : CT M (fn 284) [.sl b 0 n 5 cap, .int .i64 (((A.length + U.length : Nat) : Int) - (U2.length : Int)), .int .i64 (A.length + U.length : Nat), .int .i64 U2.length, g] (h.put b (some (.cells (arr (pf PL) (A2 ++ U2 ++ V2 ++ B2)) 116))) ⟨.tup [], h.put b (some (.cells (arr (pf PL) (A2 ++ V2 ++ U2 ++ B2)) 116)), wr'⟩ := by
        rw [show ((A.length + U.length : Nat) : Int) - (U2.length : Int) = (A2.length : Int) by omega, ← g3]
        simpa using hc
      repeat' first | apply SQn | apply W.region | apply WO.nil | apply BQe | (apply WO.sub; exact rfl; exact rfl; omega) | (apply WO.ct; exact rfl; exact rfl; first | exact hc') | (apply WO.pl; exact rfl; exact rfl)
      exact ⟨.inl rfl, rfl, _, rfl, hw'.app g1, g5⟩)
  exact ⟨wr, hw, ct_of_run C.n253 hr⟩
def Cmpp (PL : List Place) (M : Mach) (h : Heap) (b : Nat) (g : AV) (ok : Int → Prop) (cf : Int → Int → Int) : Prop :=
  ∀ x y l, ok x → ok y → CT M g [.agg (pf PL (x)), .agg (pf PL (y))] (h.put b (some (.cells (arr (pf PL) l) 116))) ⟨.int .i64 (cf x y), h.put b (some (.cells (arr (pf PL) l) 116)), []⟩
theorem get_at {A B : List Int} {x : Int} {i : Nat} (hi : i = A.length) : (A ++ x :: B)[i]! = x := by
  subst hi
  rw [List.getElem!_eq_getElem?_getD, List.getElem?_append_right (Nat.le_refl _), Nat.sub_self]
  rfl
theorem swap_down {A B : List Int} {x y : Int} {j : Nat} (hj : j = A.length) : ((A ++ y :: x :: B).set (j + 1) y).set j x = A ++ x :: y :: B := by
  subst hj
  rw [show A ++ y :: x :: B = (A ++ [y]) ++ x :: B by simp, List.set_append_right _ _ (by simp), show A.length + 1 - (A ++ [y]).length = 0 by simp, List.set_cons_zero]
  rw [show (A ++ [y]) ++ y :: B = A ++ y :: y :: B by simp, List.set_append_right _ _ (Nat.le_refl _), Nat.sub_self, List.set_cons_zero]
theorem swap_up {A B : List Int} {x y : Int} {j : Nat} (hj : j = A.length) : ((A ++ x :: y :: B).set j y).set (j + 1) x = A ++ y :: x :: B := by
  subst hj
  rw [List.set_append_right _ _ (Nat.le_refl _), Nat.sub_self, List.set_cons_zero]
  rw [show A ++ y :: y :: B = (A ++ [y]) ++ y :: B by simp, List.set_append_right _ _ (by simp), show A.length + 1 - (A ++ [y]).length = 0 by simp, List.set_cons_zero]
  simp
variable {key : Int → Int} {ok : Int → Prop} {cf : Int → Int → Int}
set_option maxHeartbeats 1000000 in
theorem loop229_0 (hb : b < h.length) (hn : n < 2305843009213693952) (hc : Cmpp PL M h b g ok cf) (hcf : ∀ x y, ok x → ok y → (cf x y < 0 ↔ key y < key x)) (a2 a4 : AV) (A T : List Int) (x : Int) (hx : ok x) {Q : Ex → StW → Prop} : ∀ (k : Nat) (S1 S2 : List Int) (lo : List (Nat × AV)) (wr : List Nat), S1.length = k → (A ++ S1 ++ x :: S2 ++ T).length = n → Only b wr → (∀ y ∈ S1 ++ S2, y < x ∧ ok y) → Sd key (S1 ++ S2) → (∀ y ∈ S2, Lt key x y) →
    (∀ S a5 lo wr L, Only b wr → Sd key S → S.Perm (x :: (S1 ++ S2)) → L = A ++ S ++ T → Q (.exit 2) ⟨⟨[.sl b 0 n 5 cap, .int .i64 A.length, a2, g, a4, a5], lo, h.put b (some (.cells (arr (pf PL) L) 116)), []⟩, wr⟩) →
    W M (.loop b229_0) ⟨⟨[.sl b 0 n 5 cap, .int .i64 A.length, a2, g, a4, .int .i64 (A.length + S1.length : Nat)], lo, h.put b (some (.cells (arr (pf PL) (A ++ S1 ++ x :: S2 ++ T)) 116)), []⟩, wr⟩ Q
  | 0, S1, S2, lo, wr, hk, hl, hw, ho, hs, h2, hQ => by
    obtain rfl := List.length_eq_zero_iff.1 hk
    refine W.loop ?_
    unfold b229_0
    repeat' first | apply W.seq | apply SQn | apply WO.nil | apply W.exit | apply SQe | apply LQe | apply W.draw | apply WD.nil | (apply WD.sT; exact rfl) | (apply WD.pure1; exact rfl) | (apply W.condF; exact rfl) | (apply WO.gtr; exact rfl; exact rfl; all_goals first | (intro _; exfalso; omega) | intro _) | (apply WO.pkF; exact rfl; exact rfl) | (apply WO.pl; exact rfl; exact rfl)
    · exact hQ (x :: S2) _ _ _ _ hw (by simpa using ins_stop (S1 := []) (x := x) (by simpa using hs) h2 (by simp)) (by simp) (by simp)
  | k + 1, S1, S2, lo, wr, hk, hl, hw, ho, hs, h2, hQ => by
    obtain ⟨R, y, rfl⟩ : ∃ R y, S1 = R ++ [y] := by
      rcases List.eq_nil_or_concat S1 with rfl | ⟨R, y, rfl⟩
      · simp at hk
      · exact ⟨R, y, by simp⟩
    have hy := ho y (by simp)
    have hl' : (A ++ (R ++ [y]) ++ x :: S2 ++ T).length = n := hl
    have hln : A.length + R.length + S2.length + T.length + 2 = n := by simp at hl; omega
    have eL : A ++ (R ++ [y]) ++ x :: S2 ++ T = (A ++ R) ++ y :: x :: (S2 ++ T) := by simp
    have eJ : (((A.length + (R ++ [y]).length : Nat) : Int)).toNat = (A ++ R).length + 1 := by simp; omega
    have eI : (((A.length + (R ++ [y]).length : Nat) : Int) - 1).toNat = (A ++ R).length := by simp; omega
    have gx : (A ++ (R ++ [y]) ++ x :: S2 ++ T)[(((A.length + (R ++ [y]).length : Nat) : Int)).toNat]! = x := by
      rw [eL, eJ, show (A ++ R) ++ y :: x :: (S2 ++ T) = (A ++ R ++ [y]) ++ x :: (S2 ++ T) by simp]
      exact get_at (by simp <;> omega)
    have gy : (A ++ (R ++ [y]) ++ x :: S2 ++ T)[(((A.length + (R ++ [y]).length : Nat) : Int) - 1).toNat]! = y := by
      rw [eL, eI]; exact get_at rfl
    have hcc : CT M g [.agg (pf PL ((A ++ (R ++ [y]) ++ x :: S2 ++ T)[(((A.length + (R ++ [y]).length : Nat) : Int)).toNat]!)), .agg (pf PL ((A ++ (R ++ [y]) ++ x :: S2 ++ T)[(((A.length + (R ++ [y]).length : Nat) : Int) - 1).toNat]!))] (h.put b (some (.cells (arr (pf PL) (A ++ (R ++ [y]) ++ x :: S2 ++ T)) 116))) ⟨.int .i64 (cf x y), h.put b (some (.cells (arr (pf PL) (A ++ (R ++ [y]) ++ x :: S2 ++ T)) 116)), []⟩ := by
      rw [gx, gy]; exact hc x y _ hx hy.2
    have hiff := hcf x y hx hy.2
    have b1 : (((A.length + (R ++ [y]).length : Nat) : Int)).toNat < (A ++ (R ++ [y]) ++ x :: S2 ++ T).length := by rw [hl']; simp; omega
    have b2 : (((A.length + (R ++ [y]).length : Nat) : Int) - 1).toNat < (A ++ (R ++ [y]) ++ x :: S2 ++ T).length := by rw [hl']; simp; omega
    have c1 : (A.length : Int) < ((A.length + (R ++ [y]).length : Nat) : Int) := by simp; omega
    have c2 : ((A.length + (R ++ [y]).length : Nat) : Int) < n := by simp; omega
    refine W.loop ?_
    by_cases hlt : cf x y < 0
    · have hxy : Lt key x y := (Lt.iff hy.1).2 (hiff.1 hlt)
      unfold b229_0
      repeat' first | apply W.seq | apply SQn | apply W.region | apply WO.nil | apply W.block | apply W.skip | apply BQn | apply W.draw | apply WD.nil | (apply WD.gT; exact rfl) | (apply WD.pure1; exact rfl) | (apply WD.load1; exact rfl; exact rfl; exact rfl) | (apply WD.store1; exact rfl; exact rfl; exact rfl) | (apply W.condT; exact rfl) | (apply WO.lss; exact rfl; exact rfl; all_goals first | (intro _; exfalso; omega) | intro _) | (apply WO.gtr; exact rfl; exact rfl; all_goals first | (intro _; exfalso; omega) | intro _) | (apply WO.pkT; exact rfl; exact rfl) | (apply WO.sub; exact rfl; exact rfl; omega) | (apply WD.ct; exact rfl; exact rfl; exact rfl; first | exact hcc) | (apply WO.ias; exact rfl; exact rfl; omega) | (apply WO.lsa; exact rfl; (first | exact rfl | assumption | exact at_new | (apply at_old; assumption) | (apply at_put; first | assumption | (simp only [put_length]; assumption))); exact fun _ => rfl; (first | omega | (simp only [List.length_set]; omega) | (simp; omega)); decide; exact rfl; case ia => infer_instance) | (apply WO.sta; exact rfl; exact rfl; (first | exact rfl | assumption | exact at_new | (apply at_old; assumption) | (apply at_put; first | assumption | (simp only [put_length]; assumption))); exact fun _ => rfl; (first | omega | (simp only [List.length_set]; omega) | (simp; omega)); exact ⟨rfl, by decide, rfl⟩; exact rfl; case ia => infer_instance) | (apply WO.pl; exact rfl; exact rfl) | (apply WO.pp; exact rfl; exact rfl)
      refine LQn ?_
      rw [put_put, put_put, gx, gy, eJ, eI, eL, swap_down rfl]
      rw [show A ++ R ++ x :: y :: (S2 ++ T) = A ++ R ++ x :: (y :: S2) ++ T by simp]
      rw [show ((A.length + (R ++ [y]).length : Nat) : Int) - 1 = ((A.length + R.length : Nat) : Int) by simp; omega]
      refine loop229_0 hb hn hc hcf a2 a4 A T x hx k R (y :: S2) _ _ (by simpa using hk) (by simp; omega) hw.cons.cons (fun z hz => ho z (by simpa using hz)) (by simpa using hs) (fun z hz => ?_) (fun S a5 lo wr L g1 g2 g3 g4 => ?_)
      · rcases List.mem_cons.1 hz with rfl | hz
        · exact hxy
        · exact h2 z hz
      · exact hQ S a5 lo wr L g1 g2 (by simpa using g3) g4
    · have hyx : Lt key y x := Lt.tot hy.1 (fun h => hlt (hiff.2 ((Lt.iff hy.1).1 h)))
      unfold b229_0
      repeat' first | apply W.seq | apply SQn | apply WO.nil | apply W.exit | apply SQe | apply LQe | apply W.draw | apply WD.nil | (apply WD.gT; exact rfl) | (apply WD.pure1; exact rfl) | (apply WD.load1; exact rfl; exact rfl; exact rfl) | (apply W.condF; exact rfl) | (apply WO.lss; exact rfl; exact rfl; all_goals first | (intro _; exfalso; omega) | intro _) | (apply WO.gtr; exact rfl; exact rfl; all_goals first | (intro _; exfalso; omega) | intro _) | (apply WO.pkT; exact rfl; exact rfl) | (apply WO.sub; exact rfl; exact rfl; omega) | (apply WD.ct; exact rfl; exact rfl; exact rfl; first | exact hcc) | (apply WO.ias; exact rfl; exact rfl; omega) | (apply WO.lsa; exact rfl; (first | exact rfl | assumption | exact at_new | (apply at_old; assumption) | (apply at_put; first | assumption | (simp only [put_length]; assumption))); exact fun _ => rfl; (first | omega | (simp only [List.length_set]; omega) | (simp; omega)); decide; exact rfl; case ia => infer_instance) | (apply WO.pl; exact rfl; exact rfl)
      exact hQ ((R ++ [y]) ++ x :: S2) _ _ _ _ hw (ins_stop hs h2 (fun z hz => by simp at hz; subst hz; exact hyx)) List.perm_middle (by simp)
theorem loop229_1 (hb : b < h.length) (hn : n < 2305843009213693952) (hc : Cmpp PL M h b g ok cf) (hcf : ∀ x y, ok x → ok y → (cf x y < 0 ↔ key y < key x)) (A B : List Int) (e : Nat) {Q : Ex → StW → Prop} : ∀ (X S0 S : List Int) (a5 : AV) (lo : List (Nat × AV)) (wr : List Nat), (A ++ S ++ X ++ B).length = n → A.length + S.length + X.length = e → Only b wr → (S0 ++ X).Pairwise (· < ·) → (∀ y ∈ S0 ++ X, ok y) → Sd key S → S.Perm S0 →
    (∀ S a4 a5 lo wr L, Only b wr → Sd key S → S.Perm (S0 ++ X) → L = A ++ S ++ B → Q (.exit 0) ⟨⟨[.sl b 0 n 5 cap, .int .i64 A.length, .int .i64 e, g, a4, a5], lo, h.put b (some (.cells (arr (pf PL) L) 116)), []⟩, wr⟩) →
    W M (.loop b229_1) ⟨⟨[.sl b 0 n 5 cap, .int .i64 A.length, .int .i64 e, g, .int .i64 (A.length + S.length : Nat), a5], lo, h.put b (some (.cells (arr (pf PL) (A ++ S ++ X ++ B)) 116)), []⟩, wr⟩ Q
  | [], S0, S, a5, lo, wr, hl, he, hw, hlt, ho, hs, hp, hQ => by
    have he' : A.length + S.length = e := by simpa using he
    refine W.loop ?_
    unfold b229_1
    repeat' first | apply W.seq | apply SQn | apply W.region | apply WO.nil | apply W.exit | apply SQe | apply LQe | (apply W.condF; exact rfl) | (apply WO.lss; exact rfl; exact rfl; all_goals first | (intro _; exfalso; omega) | intro _) | (apply WO.pl; exact rfl; exact rfl)
    · exact hQ S _ _ _ _ _ hw hs (by simpa using hp) (by simp)
  | x :: X, S0, S, a5, lo, wr, hl, he, hw, hlt, ho, hs, hp, hQ => by
    have he' : A.length + S.length < e := by simp at he; omega
    have hen : e ≤ n := by simp at hl he; omega
    have hpw := List.pairwise_append.1 hlt
    refine W.loop ?_
    unfold b229_1
    repeat' first | apply W.seq | apply SQn | apply W.region | apply WO.nil | apply W.block | apply W.skip | (apply W.condT; exact rfl) | (apply WO.lss; exact rfl; exact rfl; all_goals first | (intro _; exfalso; omega) | intro _) | (apply WO.pl; exact rfl; exact rfl) | (apply WO.pp; exact rfl; exact rfl)
    rw [show A ++ S ++ x :: X ++ B = A ++ S ++ x :: [] ++ (X ++ B) by simp]
    refine loop229_0 hb hn hc hcf _ _ A (X ++ B) x (ho x (by simp)) S.length S [] _ _ rfl (by simp at hl ⊢; omega) hw (fun y hy => ?_) (by simpa using hs) (by simp) (fun S' a5 lo wr L g1 g2 g3 g4 => ?_)
    · have hy0 : y ∈ S0 := hp.mem_iff.1 (by simpa using hy)
      exact ⟨hpw.2.2 y hy0 x (by simp), ho y (by simp [hy0])⟩
    · subst g4
      have hS' : S'.length = S.length + 1 := by rw [g3.length_eq]; simp
      repeat' first | apply SQn | apply W.region | apply WO.nil | apply BQn | apply BQe | (apply WO.add; exact rfl; exact rfl; omega) | (apply WO.pl; exact rfl; exact rfl) | (apply WO.pp; exact rfl; exact rfl)
      refine LQn ?_
      rw [show ((A.length + S.length : Nat) : Int) + 1 = ((A.length + S'.length : Nat) : Int) by omega]
      rw [show A ++ S' ++ (X ++ B) = A ++ S' ++ X ++ B by simp]
      refine loop229_1 hb hn hc hcf A B e X (S0 ++ [x]) S' _ _ _ (by simp at hl ⊢; omega) (by simp at he; omega) g1 (by simpa using hlt) (by simpa using ho) g2 ?_ (fun S a4 a5 lo wr L k1 k2 k3 k4 => ?_)
      · rw [List.append_nil] at g3
        exact (g3.trans (hp.cons x)).trans (List.perm_append_comm (l₁ := [x]) (l₂ := S0))
      · exact hQ S a4 a5 lo wr L k1 k2 (by simpa using k3) k4
theorem r229 (C : CSp M) (hb : b < h.length) (hn : n < 2305843009213693952) (hc : Cmpp PL M h b g ok cf) (hcf : ∀ x y, ok x → ok y → (cf x y < 0 ↔ key y < key x)) {A X B : List Int} (hl : (A ++ X ++ B).length = n) (hlt : X.Pairwise (· < ·)) (ho : ∀ y ∈ X, ok y) :
    ∃ S wr, Only b wr ∧ (Sd key S ∧ S.Perm X) ∧ CT M (fn 229) [.sl b 0 n 5 cap, .int .i64 A.length, .int .i64 (A.length + X.length : Nat), g] (h.put b (some (.cells (arr (pf PL) (A ++ X ++ B)) 116))) ⟨.tup [], h.put b (some (.cells (arr (pf PL) (A ++ S ++ B)) 116)), wr⟩ := by
  have hl' : A.length + X.length + B.length = n := by simp at hl; omega
  obtain ⟨l', wr, hw, ⟨S, rfl, g2, g3⟩, hr⟩ := run_put (M := M) (l := A ++ X ++ B) (e := 116) (f := pf PL) (P := fun l' => ∃ S, l' = A ++ S ++ B ∧ Sd key S ∧ S.Perm X)
    (ars := [.sl b 0 n 5 cap, .int .i64 A.length, .int .i64 (A.length + X.length : Nat), g]) (by rw [C.ft]; exact ft229) (by simp) hb (fun _ => rfl) (by
      unfold b229
      simp only [List.map_cons, List.map_nil, List.getElem?_cons_zero, List.getElem?_cons_succ, List.getElem?_nil, Option.getD_some, Option.getD_none]
      repeat' first | apply W.seq | apply SQn | apply W.region | apply WO.nil | apply W.block | (apply WO.add; exact rfl; exact rfl; omega) | (apply WO.pl; exact rfl; exact rfl) | (apply WO.pp; exact rfl; exact rfl)
      cases X with
      | nil =>
        have h0 : ([] : List Int).length = 0 := rfl
        refine W.loop ?_
        unfold b229_1
        repeat' first | apply W.seq | apply SQn | apply W.region | apply WO.nil | apply W.exit | apply SQe | apply BQe | apply LQe | (apply W.condF; exact rfl) | (apply WO.lss; exact rfl; exact rfl; all_goals first | (intro _; exfalso; omega) | intro _) | (apply WO.pl; exact rfl; exact rfl)
        · exact ⟨.inl rfl, rfl, _, rfl, Only.nil, [], by simp, Sd.nil, .refl _⟩
      | cons x X =>
        rw [show ((A.length : Nat) : Int) + 1 = ((A.length + [x].length : Nat) : Int) by simp, show A ++ x :: X ++ B = A ++ [x] ++ X ++ B by simp]
        refine loop229_1 hb hn hc hcf A B (A.length + (x :: X).length) X [x] [x] _ _ _ (by simp; simp at hl'; omega) (by simp; omega) Only.nil (by simpa using hlt) (by simpa using ho) (Sd.one x) (.refl _) (fun S a4 a5 lo wr L k1 k2 k3 k4 => ?_)
        repeat' first | apply BQe
        exact ⟨.inl rfl, rfl, L, rfl, k1, S, k4, k2, by simpa using k3⟩)
  exact ⟨S, wr, hw, ⟨g2, g3⟩, ct_of_run C.n229 hr⟩
end Go.Ab.Ch6.Srp

/-
  Own work: slices.SortStableFunc over arr (pf PL): the merge in place.
-/
namespace Go.Ab.Ch6.Srp
open Go.Ab.Sort
variable {PL : List Place} {M : Mach} {h : Heap} {b n : Nat} {cap : Option Nat} {g : AV}
variable {key : Int → Int} {ok : Int → Prop} {cf : Int → Int → Int}
theorem getD_mem {l : List Int} {i : Nat} (h : i < l.length) : l[i]! ∈ l := by
  rw [getElem!_pos l i h]; exact List.getElem_mem h
theorem atL {A L R B : List Int} {i : Nat} (h : i < L.length) : (A ++ L ++ R ++ B)[A.length + i]! = L[i]! := by
  rw [List.getElem!_eq_getElem?_getD, List.getElem!_eq_getElem?_getD, List.append_assoc, List.append_assoc, List.getElem?_append_right (by omega), Nat.add_sub_cancel_left, List.getElem?_append_left h]
theorem atR {A L R B : List Int} {i : Nat} (h : i < R.length) : (A ++ L ++ R ++ B)[A.length + L.length + i]! = R[i]! := by
  rw [List.getElem!_eq_getElem?_getD, List.getElem!_eq_getElem?_getD, List.append_assoc, List.getElem?_append_right (by simp), List.length_append, Nat.add_sub_cancel_left, List.getElem?_append_left h]
theorem sd_get {l : List Int} (h : Sd key l) {i j : Nat} (hij : i < j) (hj : j < l.length) : Lt key l[i]! l[j]! := by
  rw [getElem!_pos l i (by omega), getElem!_pos l j hj]
  exact h.get (List.getElem?_eq_getElem (by omega)) (List.getElem?_eq_getElem hj) hij
set_option maxHeartbeats 1000000 in
theorem loop230_0 (hn : n < 2305843009213693952) (hb : b < h.length) (hc : Cmpp PL M h b g ok cf) (l : List Int) (hl : l.length = n) (a m e : Nat) (ha : a < n) (he : e ≤ n) (hok : ∀ k, m ≤ k → k < e → ok l[k]!) (hoa : ok l[a]!) (a2 a3 a8 a9 a10 a11 a12 a13 a14 a15 a16 a17 a18 a19 : AV) (wr : List Nat)
    (hm : ∀ k k', m ≤ k → k < k' → k' < e → cf l[k']! l[a]! < 0 → cf l[k]! l[a]! < 0) {Q : Ex → StW → Prop} : ∀ (r i j : Nat) (a7 : AV) (lo : List (Nat × AV)), j - i ≤ r → m ≤ i → i ≤ j → j ≤ e → (∀ k, m ≤ k → k < i → cf l[k]! l[a]! < 0) → (∀ k, j ≤ k → k < e → ¬ cf l[k]! l[a]! < 0) →
    (∀ (i : Nat) a7 lo, m ≤ i → i ≤ e → (∀ k, m ≤ k → k < i → cf l[k]! l[a]! < 0) → (∀ k, i ≤ k → k < e → ¬ cf l[k]! l[a]! < 0) → Q (.exit 0) ⟨⟨[.sl b 0 n 5 cap, .int .i64 a, a2, a3, g, .int .i64 i, .int .i64 i, a7, a8, a9, a10, a11, a12, a13, a14, a15, a16, a17, a18, a19], lo, h.put b (some (.cells (arr (pf PL) l) 116)), []⟩, wr⟩) →
    W M (.loop b230_0) ⟨⟨[.sl b 0 n 5 cap, .int .i64 a, a2, a3, g, .int .i64 i, .int .i64 j, a7, a8, a9, a10, a11, a12, a13, a14, a15, a16, a17, a18, a19], lo, h.put b (some (.cells (arr (pf PL) l) 116)), []⟩, wr⟩ Q := by
  intro r
  induction r with
  | zero =>
    intro i j a7 lo hr h1 h2 h3 h4 h5 hQ
    obtain rfl : i = j := by omega
    refine W.loop ?_
    unfold b230_0
    repeat' first | apply W.seq | apply SQn | apply W.region | apply WO.nil | apply W.exit | apply SQe | apply LQe | (apply W.condF; exact rfl) | (apply WO.lss; exact rfl; exact rfl; all_goals first | (intro _; exfalso; omega) | intro _) | (apply WO.pl; exact rfl; exact rfl)
    · exact hQ i _ _ h1 h3 h4 h5
  | succ r ih =>
    intro i j a7 lo hr h1 h2 h3 h4 h5 hQ
    refine W.loop ?_
    rcases Nat.eq_or_lt_of_le h2 with rfl | hlt
    · unfold b230_0
      repeat' first | apply W.seq | apply SQn | apply W.region | apply WO.nil | apply W.exit | apply SQe | apply LQe | (apply W.condF; exact rfl) | (apply WO.lss; exact rfl; exact rfl; all_goals first | (intro _; exfalso; omega) | intro _) | (apply WO.pl; exact rfl; exact rfl)
      · exact hQ i _ _ h1 h3 h4 h5
    · obtain ⟨H, hH⟩ : ∃ H, H = (i + j) / 2 := ⟨_, rfl⟩
      have eH : ((i : Int) + (j : Int)) / 2 = (H : Int) := by omega
      have eH' : (((i : Int) + (j : Int)) / 2).toNat = H := by omega
      have ea : ((a : Int)).toNat = a := by omega
      have hHl : (((i : Int) + (j : Int)) / 2).toNat < l.length := by omega
      have hal : ((a : Int)).toNat < l.length := by omega
      have hcc : CT M g [.agg (pf PL (l[(((i : Int) + (j : Int)) / 2).toNat]!)), .agg (pf PL (l[((a : Int)).toNat]!))] (h.put b (some (.cells (arr (pf PL) l) 116))) ⟨.int .i64 (cf l[H]! l[a]!), h.put b (some (.cells (arr (pf PL) l) 116)), []⟩ := by
        rw [eH', ea]; exact hc _ _ _ (hok H (by omega) (by omega)) hoa
      by_cases hd : cf l[H]! l[a]! < 0
      · unfold b230_0
        repeat' first | apply W.seq | apply SQn | apply W.region | apply WO.nil | apply W.block | apply W.skip | apply BQn | apply W.draw | apply WD.nil | (apply WD.pure1; exact rfl) | (apply WD.load1; exact rfl; exact rfl; exact rfl) | (apply W.condT; exact rfl) | (apply WO.lss; exact rfl; exact rfl; all_goals first | (intro _; exfalso; omega) | intro _) | (apply WO.cvu; exact rfl; omega) | (apply WO.cvi; exact rfl; omega) | (apply WO.shr1; exact rfl) | (apply WO.add; exact rfl; exact rfl; omega) | (apply WD.ct; exact rfl; exact rfl; exact rfl; first | exact hcc) | (apply WO.ias; exact rfl; exact rfl; omega) | (apply WO.lsa; exact rfl; (first | exact rfl | assumption | exact at_new | (apply at_old; assumption) | (apply at_put; first | assumption | (simp only [put_length]; assumption))); exact fun _ => rfl; (first | omega | (simp only [List.length_set]; omega) | (simp; omega)); decide; exact rfl; case ia => infer_instance) | (apply WO.pl; exact rfl; exact rfl) | (apply WO.pp; exact rfl; exact rfl)
        refine LQn ?_
        rw [eH]
        exact ih (H + 1) j _ _ (by omega) (by omega) (by omega) h3 (fun k hk1 hk2 => by
          rcases Nat.lt_or_eq_of_le (Nat.le_of_lt_succ hk2) with hk | rfl
          · exact hm k H hk1 hk (by omega) hd
          · exact hd) h5 hQ
      · unfold b230_0
        repeat' first | apply W.seq | apply SQn | apply W.region | apply WO.nil | apply W.block | apply W.skip | apply BQn | apply W.draw | apply WD.nil | (apply WD.pure1; exact rfl) | (apply WD.load1; exact rfl; exact rfl; exact rfl) | (apply W.condT; exact rfl) | (apply W.condF; exact rfl) | (apply WO.lss; exact rfl; exact rfl; all_goals first | (intro _; exfalso; omega) | intro _) | (apply WO.cvu; exact rfl; omega) | (apply WO.cvi; exact rfl; omega) | (apply WO.shr1; exact rfl) | (apply WO.add; exact rfl; exact rfl; omega) | (apply WD.ct; exact rfl; exact rfl; exact rfl; first | exact hcc) | (apply WO.ias; exact rfl; exact rfl; omega) | (apply WO.lsa; exact rfl; (first | exact rfl | assumption | exact at_new | (apply at_old; assumption) | (apply at_put; first | assumption | (simp only [put_length]; assumption))); exact fun _ => rfl; (first | omega | (simp only [List.length_set]; omega) | (simp; omega)); decide; exact rfl; case ia => infer_instance) | (apply WO.pl; exact rfl; exact rfl) | (apply WO.pp; exact rfl; exact rfl)
        refine LQn ?_
        rw [eH]
        exact ih i H _ _ (by omega) h1 (by omega) (by omega) h4 (fun k hk1 hk2 => by
          rcases Nat.lt_or_eq_of_le hk1 with hk | rfl
          · exact fun hd' => hd (hm H k (by omega) hk hk2 hd')
          · exact hd) hQ
set_option maxHeartbeats 1000000 in
theorem loop230_2 (hn : n < 2305843009213693952) (hb : b < h.length) (hc : Cmpp PL M h b g ok cf) (l : List Int) (hl : l.length = n) (a m e : Nat) (ha : a < n) (he : e ≤ n) (hok : ∀ k, m ≤ k → k < e → ok l[k]!) (hoa : ok l[a]!) (a1 a3 a5 a6 a7 a8 a12 a13 a14 a15 a16 a17 a18 a19 : AV) (wr : List Nat)
    (hm : ∀ k k', m ≤ k → k < k' → k' < e → ¬ cf l[a]! l[k']! < 0 → ¬ cf l[a]! l[k]! < 0) {Q : Ex → StW → Prop} : ∀ (r i j : Nat) (a11 : AV) (lo : List (Nat × AV)), j - i ≤ r → m ≤ i → i ≤ j → j ≤ e → (∀ k, m ≤ k → k < i → ¬ cf l[a]! l[k]! < 0) → (∀ k, j ≤ k → k < e → cf l[a]! l[k]! < 0) →
    (∀ (i : Nat) a11 lo, m ≤ i → i ≤ e → (∀ k, m ≤ k → k < i → ¬ cf l[a]! l[k]! < 0) → (∀ k, i ≤ k → k < e → cf l[a]! l[k]! < 0) → Q (.exit 4) ⟨⟨[.sl b 0 n 5 cap, a1, .int .i64 a, a3, g, a5, a6, a7, a8, .int .i64 i, .int .i64 i, a11, a12, a13, a14, a15, a16, a17, a18, a19], lo, h.put b (some (.cells (arr (pf PL) l) 116)), []⟩, wr⟩) →
    W M (.loop b230_2) ⟨⟨[.sl b 0 n 5 cap, a1, .int .i64 a, a3, g, a5, a6, a7, a8, .int .i64 i, .int .i64 j, a11, a12, a13, a14, a15, a16, a17, a18, a19], lo, h.put b (some (.cells (arr (pf PL) l) 116)), []⟩, wr⟩ Q := by
  intro r
  induction r with
  | zero =>
    intro i j a11 lo hr h1 h2 h3 h4 h5 hQ
    obtain rfl : i = j := by omega
    refine W.loop ?_
    unfold b230_2
    repeat' first | apply W.seq | apply SQn | apply W.region | apply WO.nil | apply W.exit | apply SQe | apply LQe | (apply W.condF; exact rfl) | (apply WO.lss; exact rfl; exact rfl; all_goals first | (intro _; exfalso; omega) | intro _) | (apply WO.pl; exact rfl; exact rfl)
    · exact hQ i _ _ h1 h3 h4 h5
  | succ r ih =>
    intro i j a11 lo hr h1 h2 h3 h4 h5 hQ
    refine W.loop ?_
    rcases Nat.eq_or_lt_of_le h2 with rfl | hlt
    · unfold b230_2
      repeat' first | apply W.seq | apply SQn | apply W.region | apply WO.nil | apply W.exit | apply SQe | apply LQe | (apply W.condF; exact rfl) | (apply WO.lss; exact rfl; exact rfl; all_goals first | (intro _; exfalso; omega) | intro _) | (apply WO.pl; exact rfl; exact rfl)
      · exact hQ i _ _ h1 h3 h4 h5
    · obtain ⟨H, hH⟩ : ∃ H, H = (i + j) / 2 := ⟨_, rfl⟩
      have eH : ((i : Int) + (j : Int)) / 2 = (H : Int) := by omega
      have eH' : (((i : Int) + (j : Int)) / 2).toNat = H := by omega
      have ea : ((a : Int)).toNat = a := by omega
      have hHl : (((i : Int) + (j : Int)) / 2).toNat < l.length := by omega
      have hal : ((a : Int)).toNat < l.length := by omega
      have hcc : CT M g [.agg (pf PL (l[((a : Int)).toNat]!)), .agg (pf PL (l[(((i : Int) + (j : Int)) / 2).toNat]!))] (h.put b (some (.cells (arr (pf PL) l) 116))) ⟨.int .i64 (cf l[a]! l[H]!), h.put b (some (.cells (arr (pf PL) l) 116)), []⟩ := by
        rw [eH', ea]; exact hc _ _ _ hoa (hok H (by omega) (by omega))
      by_cases hd : ¬ cf l[a]! l[H]! < 0
      · unfold b230_2
        repeat' first | apply W.seq | apply SQn | apply W.region | apply WO.nil | apply W.block | apply W.skip | apply BQn | apply W.draw | apply WD.nil | (apply WD.pure1; exact rfl) | (apply WD.load1; exact rfl; exact rfl; exact rfl) | (apply W.condT; exact rfl) | (apply WO.lss; exact rfl; exact rfl; all_goals first | (intro _; exfalso; omega) | intro _) | (apply WO.cvu; exact rfl; omega) | (apply WO.cvi; exact rfl; omega) | (apply WO.shr1; exact rfl) | (apply WO.add; exact rfl; exact rfl; omega) | (apply WD.ct; exact rfl; exact rfl; exact rfl; first | exact hcc) | (apply WO.ias; exact rfl; exact rfl; omega) | (apply WO.lsa; exact rfl; (first | exact rfl | assumption | exact at_new | (apply at_old; assumption) | (apply at_put; first | assumption | (simp only [put_length]; assumption))); exact fun _ => rfl; (first | omega | (simp only [List.length_set]; omega) | (simp; omega)); decide; exact rfl; case ia => infer_instance) | (apply WO.pl; exact rfl; exact rfl) | (apply WO.pp; exact rfl; exact rfl)
        refine LQn ?_
        rw [eH]
        exact ih (H + 1) j _ _ (by omega) (by omega) (by omega) h3 (fun k hk1 hk2 => by
          rcases Nat.lt_or_eq_of_le (Nat.le_of_lt_succ hk2) with hk | rfl
          · exact hm k H hk1 hk (by omega) hd
          · exact hd) h5 hQ
      · unfold b230_2
        repeat' first | apply W.seq | apply SQn | apply W.region | apply WO.nil | apply W.block | apply W.skip | apply BQn | apply W.draw | apply WD.nil | (apply WD.pure1; exact rfl) | (apply WD.load1; exact rfl; exact rfl; exact rfl) | (apply W.condT; exact rfl) | (apply W.condF; exact rfl) | (apply WO.lss; exact rfl; exact rfl; all_goals first | (intro _; exfalso; omega) | intro _) | (apply WO.cvu; exact rfl; omega) | (apply WO.cvi; exact rfl; omega) | (apply WO.shr1; exact rfl) | (apply WO.add; exact rfl; exact rfl; omega) | (apply WD.ct; exact rfl; exact rfl; exact rfl; first | exact hcc) | (apply WO.ias; exact rfl; exact rfl; omega) | (apply WO.lsa; exact rfl; (first | exact rfl | assumption | exact at_new | (apply at_old; assumption) | (apply at_put; first | assumption | (simp only [put_length]; assumption))); exact fun _ => rfl; (first | omega | (simp only [List.length_set]; omega) | (simp; omega)); decide; exact rfl; case ia => infer_instance) | (apply WO.pl; exact rfl; exact rfl) | (apply WO.pp; exact rfl; exact rfl)
        refine LQn ?_
        rw [eH]
        exact ih i H _ _ (by omega) h1 (by omega) (by omega) h4 (fun k hk1 hk2 => by
          rcases Nat.lt_or_eq_of_le hk1 with hk | rfl
          · exact Decidable.byContradiction fun hd' => hd (hm H k (by omega) hk hk2 hd')
          · exact Decidable.byContradiction hd) hQ
set_option maxHeartbeats 1000000 in
theorem loop230_4 (hn : n < 2305843009213693952) (hb : b < h.length) (hc : Cmpp PL M h b g ok cf) (l : List Int) (hl : l.length = n) (p m e : Nat) (he : e ≤ n) (hp : p < n + m) (hep : e ≤ p + 1) (hok : ∀ k, m ≤ k → k < e → ok l[k]! ∧ ok l[p - k]!) (a1 a2 a3 a5 a6 a7 a8 a9 a10 a11 a12 a13 a14 a19 : AV) (wr : List Nat)
    (hm : ∀ k k', m ≤ k → k < k' → k' < e → ¬ cf l[p - k']! l[k']! < 0 → ¬ cf l[p - k]! l[k]! < 0) {Q : Ex → StW → Prop} : ∀ (r i j : Nat) (a18 : AV) (lo : List (Nat × AV)), j - i ≤ r → m ≤ i → i ≤ j → j ≤ e → (∀ k, m ≤ k → k < i → ¬ cf l[p - k]! l[k]! < 0) → (∀ k, j ≤ k → k < e → cf l[p - k]! l[k]! < 0) →
    (∀ (i : Nat) a18 lo, m ≤ i → i ≤ e → (∀ k, m ≤ k → k < i → ¬ cf l[p - k]! l[k]! < 0) → (∀ k, i ≤ k → k < e → cf l[p - k]! l[k]! < 0) → Q (.exit 8) ⟨⟨[.sl b 0 n 5 cap, a1, a2, a3, g, a5, a6, a7, a8, a9, a10, a11, a12, a13, a14, .int .i64 i, .int .i64 i, .int .i64 p, a18, a19], lo, h.put b (some (.cells (arr (pf PL) l) 116)), []⟩, wr⟩) →
    W M (.loop b230_4) ⟨⟨[.sl b 0 n 5 cap, a1, a2, a3, g, a5, a6, a7, a8, a9, a10, a11, a12, a13, a14, .int .i64 i, .int .i64 j, .int .i64 p, a18, a19], lo, h.put b (some (.cells (arr (pf PL) l) 116)), []⟩, wr⟩ Q := by
  intro r
  induction r with
  | zero =>
    intro i j a18 lo hr h1 h2 h3 h4 h5 hQ
    obtain rfl : i = j := by omega
    refine W.loop ?_
    unfold b230_4
    repeat' first | apply W.seq | apply SQn | apply W.region | apply WO.nil | apply W.exit | apply SQe | apply LQe | (apply W.condF; exact rfl) | (apply WO.lss; exact rfl; exact rfl; all_goals first | (intro _; exfalso; omega) | intro _) | (apply WO.pl; exact rfl; exact rfl)
    · exact hQ i _ _ h1 h3 h4 h5
  | succ r ih =>
    intro i j a18 lo hr h1 h2 h3 h4 h5 hQ
    refine W.loop ?_
    rcases Nat.eq_or_lt_of_le h2 with rfl | hlt
    · unfold b230_4
      repeat' first | apply W.seq | apply SQn | apply W.region | apply WO.nil | apply W.exit | apply SQe | apply LQe | (apply W.condF; exact rfl) | (apply WO.lss; exact rfl; exact rfl; all_goals first | (intro _; exfalso; omega) | intro _) | (apply WO.pl; exact rfl; exact rfl)
      · exact hQ i _ _ h1 h3 h4 h5
    · obtain ⟨H, hH⟩ : ∃ H, H = (i + j) / 2 := ⟨_, rfl⟩
      have eH : ((i : Int) + (j : Int)) / 2 = (H : Int) := by omega
      have eH' : (((i : Int) + (j : Int)) / 2).toNat = H := by omega
      have ep : ((p : Int) - (((i : Int) + (j : Int)) / 2)).toNat = p - H := by omega
      have hHl : (((i : Int) + (j : Int)) / 2).toNat < l.length := by omega
      have hal : ((p : Int) - (((i : Int) + (j : Int)) / 2)).toNat < l.length := by omega
      have hcc : CT M g [.agg (pf PL (l[((p : Int) - (((i : Int) + (j : Int)) / 2)).toNat]!)), .agg (pf PL (l[(((i : Int) + (j : Int)) / 2).toNat]!))] (h.put b (some (.cells (arr (pf PL) l) 116))) ⟨.int .i64 (cf l[p - H]! l[H]!), h.put b (some (.cells (arr (pf PL) l) 116)), []⟩ := by
        rw [eH', ep]; exact hc _ _ _ (hok H (by omega) (by omega)).2 (hok H (by omega) (by omega)).1
      by_cases hd : ¬ cf l[p - H]! l[H]! < 0
      · unfold b230_4
        repeat' first | apply W.seq | apply SQn | apply W.region | apply WO.nil | apply W.block | apply W.skip | apply BQn | apply W.draw | apply WD.nil | (apply WD.pure1; exact rfl) | (apply WD.load1; exact rfl; exact rfl; exact rfl) | (apply W.condT; exact rfl) | (apply WO.lss; exact rfl; exact rfl; all_goals first | (intro _; exfalso; omega) | intro _) | (apply WO.cvu; exact rfl; omega) | (apply WO.cvi; exact rfl; omega) | (apply WO.shr1; exact rfl) | (apply WO.add; exact rfl; exact rfl; omega) | (apply WO.sub; exact rfl; exact rfl; omega) | (apply WD.ct; exact rfl; exact rfl; exact rfl; first | exact hcc) | (apply WO.ias; exact rfl; exact rfl; omega) | (apply WO.lsa; exact rfl; (first | exact rfl | assumption | exact at_new | (apply at_old; assumption) | (apply at_put; first | assumption | (simp only [put_length]; assumption))); exact fun _ => rfl; (first | omega | (simp only [List.length_set]; omega) | (simp; omega)); decide; exact rfl; case ia => infer_instance) | (apply WO.pl; exact rfl; exact rfl) | (apply WO.pp; exact rfl; exact rfl)
        refine LQn ?_
        rw [eH]
        exact ih (H + 1) j _ _ (by omega) (by omega) (by omega) h3 (fun k hk1 hk2 => by
          rcases Nat.lt_or_eq_of_le (Nat.le_of_lt_succ hk2) with hk | rfl
          · exact hm k H hk1 hk (by omega) hd
          · exact hd) h5 hQ
      · unfold b230_4
        repeat' first | apply W.seq | apply SQn | apply W.region | apply WO.nil | apply W.block | apply W.skip | apply BQn | apply W.draw | apply WD.nil | (apply WD.pure1; exact rfl) | (apply WD.load1; exact rfl; exact rfl; exact rfl) | (apply W.condT; exact rfl) | (apply W.condF; exact rfl) | (apply WO.lss; exact rfl; exact rfl; all_goals first | (intro _; exfalso; omega) | intro _) | (apply WO.cvu; exact rfl; omega) | (apply WO.cvi; exact rfl; omega) | (apply WO.shr1; exact rfl) | (apply WO.add; exact rfl; exact rfl; omega) | (apply WO.sub; exact rfl; exact rfl; omega) | (apply WD.ct; exact rfl; exact rfl; exact rfl; first | exact hcc) | (apply WO.ias; exact rfl; exact rfl; omega) | (apply WO.lsa; exact rfl; (first | exact rfl | assumption | exact at_new | (apply at_old; assumption) | (apply at_put; first | assumption | (simp only [put_length]; assumption))); exact fun _ => rfl; (first | omega | (simp only [List.length_set]; omega) | (simp; omega)); decide; exact rfl; case ia => infer_instance) | (apply WO.pl; exact rfl; exact rfl) | (apply WO.pp; exact rfl; exact rfl)
        refine LQn ?_
        rw [eH]
        exact ih i H _ _ (by omega) h1 (by omega) (by omega) h4 (fun k hk1 hk2 => by
          rcases Nat.lt_or_eq_of_le hk1 with hk | rfl
          · exact Decidable.byContradiction fun hd' => hd (hm H k (by omega) hk hk2 hd')
          · exact Decidable.byContradiction hd) hQ
set_option maxHeartbeats 1000000 in
theorem loop230_1 (hn : n < 2305843009213693952) (hb : b < h.length) (x : Int) (T : List Int) (i : Nat) (a1 a2 a3 a6 a7 a9 a10 a11 a12 a13 a14 a15 a16 a17 a18 a19 : AV) {Q : Ex → StW → Prop} : ∀ (R A : List Int) (lo : List (Nat × AV)) (wr : List Nat), A.length + R.length + 1 = i → (A ++ x :: (R ++ T)).length = n → Only b wr →
    (∀ a8 lo wr L, Only b wr → L = A ++ R ++ x :: T → Q (.exit 2) ⟨⟨[.sl b 0 n 5 cap, a1, a2, a3, g, .int .i64 i, a6, a7, a8, a9, a10, a11, a12, a13, a14, a15, a16, a17, a18, a19], lo, h.put b (some (.cells (arr (pf PL) L) 116)), []⟩, wr⟩) →
    W M (.loop b230_1) ⟨⟨[.sl b 0 n 5 cap, a1, a2, a3, g, .int .i64 i, a6, a7, .int .i64 A.length, a9, a10, a11, a12, a13, a14, a15, a16, a17, a18, a19], lo, h.put b (some (.cells (arr (pf PL) (A ++ x :: (R ++ T))) 116)), []⟩, wr⟩ Q
  | [], A, lo, wr, hi, hl, hw, hQ => by
    have h0 : ([] : List Int).length = 0 := rfl
    have hn' : A.length < n := by simp at hl; omega
    refine W.loop ?_
    unfold b230_1
    repeat' first | apply W.seq | apply SQn | apply W.region | apply WO.nil | apply W.exit | apply SQe | apply LQe | (apply W.condF; exact rfl) | (apply WO.lss; exact rfl; exact rfl; all_goals first | (intro _; exfalso; omega) | intro _) | (apply WO.sub; exact rfl; exact rfl; omega) | (apply WO.pl; exact rfl; exact rfl)
    · exact hQ _ _ _ _ hw (by simp)
  | y :: R, A, lo, wr, hi, hl, hw, hQ => by
    have hi' : A.length + R.length + 2 = i := by simp at hi; omega
    have hl' : A.length + R.length + T.length + 2 = n := by simp at hl; omega
    have hli : i ≤ n := by omega
    have e1 : ((A.length : Int)).toNat = A.length := by omega
    have e2 : ((A.length : Int) + 1).toNat = A.length + 1 := by omega
    have b1 : ((A.length : Int)).toNat < (A ++ x :: (y :: R ++ T)).length := by omega
    have b2 : ((A.length : Int) + 1).toNat < (A ++ x :: (y :: R ++ T)).length := by omega
    have g1 : (A ++ x :: (y :: R ++ T))[A.length]! = x := get_at rfl
    have g2 : (A ++ x :: (y :: R ++ T))[A.length + 1]! = y := by
      rw [show A ++ x :: (y :: R ++ T) = (A ++ [x]) ++ y :: (R ++ T) by simp]; exact get_at (by simp)
    refine W.loop ?_
    unfold b230_1
    repeat' first | apply W.seq | apply SQn | apply W.region | apply WO.nil | apply W.block | apply W.skip | apply BQn | apply W.draw | apply WD.nil | (apply WD.pure1; exact rfl) | (apply WD.load1; exact rfl; exact rfl; exact rfl) | (apply WD.store1; exact rfl; exact rfl; exact rfl) | (apply W.condT; exact rfl) | (apply WO.lss; exact rfl; exact rfl; all_goals first | (intro _; exfalso; omega) | intro _) | (apply WO.add; exact rfl; exact rfl; omega) | (apply WO.sub; exact rfl; exact rfl; omega) | (apply WO.ias; exact rfl; exact rfl; omega) | (apply WO.lsa; exact rfl; (first | exact rfl | assumption | exact at_new | (apply at_old; assumption) | (apply at_put; first | assumption | (simp only [put_length]; assumption))); exact fun _ => rfl; (first | omega | (simp only [List.length_set]; omega) | (simp; omega)); decide; exact rfl; case ia => infer_instance) | (apply WO.sta; exact rfl; exact rfl; (first | exact rfl | assumption | exact at_new | (apply at_old; assumption) | (apply at_put; first | assumption | (simp only [put_length]; assumption))); exact fun _ => rfl; (first | omega | (simp only [List.length_set]; omega) | (simp; omega)); exact ⟨rfl, by decide, rfl⟩; exact rfl; case ia => infer_instance) | (apply WO.pl; exact rfl; exact rfl) | (apply WO.pp; exact rfl; exact rfl)
    refine LQn ?_
    rw [put_put, put_put, e1, e2, g1, g2, show A ++ x :: (y :: R ++ T) = A ++ x :: y :: (R ++ T) by simp, swap_up rfl]
    rw [show (A.length : Int) + 1 = ((A ++ [y]).length : Int) by simp, show A ++ y :: x :: (R ++ T) = (A ++ [y]) ++ x :: (R ++ T) by simp]
    refine loop230_1 hn hb x T i a1 a2 a3 a6 a7 a9 a10 a11 a12 a13 a14 a15 a16 a17 a18 a19 R (A ++ [y]) _ _ (by simp; omega) (by simp; omega) hw.cons.cons (fun a8 lo wr L k1 k2 => ?_)
    exact hQ a8 lo wr L k1 (by rw [k2]; simp)
set_option maxHeartbeats 1000000 in
theorem loop230_3 (hn : n < 2305843009213693952) (hb : b < h.length) (y : Int) (A : List Int) (a1 a2 a3 a5 a6 a7 a8 a10 a11 a13 a14 a15 a16 a17 a18 a19 : AV) {Q : Ex → StW → Prop} : ∀ (k : Nat) (L T : List Int) (lo : List (Nat × AV)) (wr : List Nat), L.length = k → (A ++ L ++ y :: T).length = n → Only b wr →
    (∀ a12 lo wr L', Only b wr → L' = A ++ y :: L ++ T → Q (.exit 6) ⟨⟨[.sl b 0 n 5 cap, a1, a2, a3, g, a5, a6, a7, a8, .int .i64 A.length, a10, a11, a12, a13, a14, a15, a16, a17, a18, a19], lo, h.put b (some (.cells (arr (pf PL) L') 116)), []⟩, wr⟩) →
    W M (.loop b230_3) ⟨⟨[.sl b 0 n 5 cap, a1, a2, a3, g, a5, a6, a7, a8, .int .i64 A.length, a10, a11, .int .i64 (A.length + L.length : Nat), a13, a14, a15, a16, a17, a18, a19], lo, h.put b (some (.cells (arr (pf PL) (A ++ L ++ y :: T)) 116)), []⟩, wr⟩ Q
  | 0, L, T, lo, wr, hk, hl, hw, hQ => by
    obtain rfl := List.length_eq_zero_iff.1 hk
    have h0 : ([] : List Int).length = 0 := rfl
    have hn' : A.length < n := by simp at hl; omega
    refine W.loop ?_
    unfold b230_3
    repeat' first | apply W.seq | apply SQn | apply W.region | apply WO.nil | apply W.exit | apply SQe | apply LQe | (apply W.condF; exact rfl) | (apply WO.gtr; exact rfl; exact rfl; all_goals first | (intro _; exfalso; omega) | intro _) | (apply WO.pl; exact rfl; exact rfl)
    · exact hQ _ _ _ _ hw (by simp)
  | k + 1, L, T, lo, wr, hk, hl, hw, hQ => by
    obtain ⟨R, z, rfl⟩ : ∃ R z, L = R ++ [z] := by
      rcases List.eq_nil_or_concat L with rfl | ⟨R, z, rfl⟩
      · simp at hk
      · exact ⟨R, z, by simp⟩
    have hl' : A.length + R.length + T.length + 2 = n := by simp at hl; omega
    have hR : (R ++ [z]).length = R.length + 1 := by simp
    have hAR : (A ++ R).length = A.length + R.length := by simp
    have e1 : ((A.length + (R ++ [z]).length : Nat) : Int).toNat = (A ++ R).length + 1 := by omega
    have e2 : (((A.length + (R ++ [z]).length : Nat) : Int) - 1).toNat = (A ++ R).length := by omega
    have eL : A ++ (R ++ [z]) ++ y :: T = (A ++ R) ++ z :: y :: T := by simp
    have b1 : ((A.length + (R ++ [z]).length : Nat) : Int).toNat < (A ++ (R ++ [z]) ++ y :: T).length := by omega
    have b2 : (((A.length + (R ++ [z]).length : Nat) : Int) - 1).toNat < (A ++ (R ++ [z]) ++ y :: T).length := by omega
    have g1 : ((A ++ R) ++ z :: y :: T)[(A ++ R).length]! = z := get_at rfl
    have g2 : ((A ++ R) ++ z :: y :: T)[(A ++ R).length + 1]! = y := by
      rw [show (A ++ R) ++ z :: y :: T = (A ++ R ++ [z]) ++ y :: T by simp]; exact get_at (by simp <;> omega)
    refine W.loop ?_
    unfold b230_3
    repeat' first | apply W.seq | apply SQn | apply W.region | apply WO.nil | apply W.block | apply W.skip | apply BQn | apply W.draw | apply WD.nil | (apply WD.pure1; exact rfl) | (apply WD.load1; exact rfl; exact rfl; exact rfl) | (apply WD.store1; exact rfl; exact rfl; exact rfl) | (apply W.condT; exact rfl) | (apply WO.gtr; exact rfl; exact rfl; all_goals first | (intro _; exfalso; omega) | intro _) | (apply WO.sub; exact rfl; exact rfl; omega) | (apply WO.ias; exact rfl; exact rfl; omega) | (apply WO.lsa; exact rfl; (first | exact rfl | assumption | exact at_new | (apply at_old; assumption) | (apply at_put; first | assumption | (simp only [put_length]; assumption))); exact fun _ => rfl; (first | omega | (simp only [List.length_set]; omega) | (simp; omega)); decide; exact rfl; case ia => infer_instance) | (apply WO.sta; exact rfl; exact rfl; (first | exact rfl | assumption | exact at_new | (apply at_old; assumption) | (apply at_put; first | assumption | (simp only [put_length]; assumption))); exact fun _ => rfl; (first | omega | (simp only [List.length_set]; omega) | (simp; omega)); exact ⟨rfl, by decide, rfl⟩; exact rfl; case ia => infer_instance) | (apply WO.pl; exact rfl; exact rfl) | (apply WO.pp; exact rfl; exact rfl)
    refine LQn ?_
    rw [put_put, put_put, e1, e2, eL, g1, g2, swap_down rfl]
    rw [show ((A.length + (R ++ [z]).length : Nat) : Int) - 1 = ((A.length + R.length : Nat) : Int) by omega, show A ++ R ++ y :: z :: T = A ++ R ++ y :: (z :: T) from rfl]
    refine loop230_3 hn hb y A a1 a2 a3 a5 a6 a7 a8 a10 a11 a13 a14 a15 a16 a17 a18 a19 k R (z :: T) _ _ (by omega) (by simp; omega) hw.cons.cons (fun a12 lo wr L k1 k2 => ?_)
    exact hQ a12 lo wr L k1 (by rw [k2]; simp)
end Go.Ab.Ch6.Srp

/-
  Own work: slices.SortStableFunc over arr (pf PL): the merge in place, whole.
-/
namespace Go.Ab.Ch6.Srp
open Go.Ab.Sort
variable {PL : List Place} {M : Mach} {h : Heap} {b n : Nat} {cap : Option Nat} {g : AV}
variable {key : Int → Int} {ok : Int → Prop} {cf : Int → Int → Int}
def t230_1 : ICode :=
 .seq (.region [⟨(.l 178), .mv (.p 15), none⟩,
    ⟨(.l 179), .mv (.p 2), none⟩,
    ⟨(.l 180), .bin .lss (.l 178) (.l 179), none⟩,
    ⟨(.l 181), .mv (.l 180), none⟩,
    ⟨(.l 182), .mv (.p 2), some ((.l 181), true)⟩,
    ⟨(.l 183), .mv (.p 19), some ((.l 181), true)⟩,
    ⟨(.l 184), .bin .lss (.l 182) (.l 183), some ((.l 181), true)⟩,
    ⟨(.l 185), .pick (.l 181) (.l 184) (.c (.bool false)), none⟩])
  (.cond (.l 185)
   (.region [⟨(.l 186), .mv (.p 0), none⟩,
     ⟨(.l 187), .mv (.p 15), none⟩,
     ⟨(.l 188), .mv (.p 2), none⟩,
     ⟨(.l 189), .mv (.p 19), none⟩,
     ⟨(.l 190), .mv (.p 4), none⟩,
     ⟨(.l 191), .call (.c (.fn (.func 253) [] [])) [(.l 186), (.l 187), (.l 188), (.l 189), (.l 190)], none⟩])
   (.skip))
def t230_2 : ICode :=
 .seq (.region [⟨(.l 192), .mv (.p 1), none⟩,
    ⟨(.l 193), .mv (.p 15), none⟩,
    ⟨(.l 194), .bin .lss (.l 192) (.l 193), none⟩,
    ⟨(.l 195), .mv (.l 194), none⟩,
    ⟨(.l 196), .mv (.p 15), some ((.l 195), true)⟩,
    ⟨(.l 197), .mv (.p 13), some ((.l 195), true)⟩,
    ⟨(.l 198), .bin .lss (.l 196) (.l 197), some ((.l 195), true)⟩,
    ⟨(.l 199), .pick (.l 195) (.l 198) (.c (.bool false)), none⟩])
  (.cond (.l 199)
   (.region [⟨(.l 200), .mv (.p 0), none⟩,
     ⟨(.l 201), .mv (.p 1), none⟩,
     ⟨(.l 202), .mv (.p 15), none⟩,
     ⟨(.l 203), .mv (.p 13), none⟩,
     ⟨(.l 204), .mv (.p 4), none⟩,
     ⟨(.l 205), .call (.c (.fn (.func 230) [] [])) [(.l 200), (.l 201), (.l 202), (.l 203), (.l 204)], none⟩])
   (.skip))
def t230_3 : ICode :=
 .seq (.region [⟨(.l 206), .mv (.p 13), none⟩,
    ⟨(.l 207), .mv (.p 19), none⟩,
    ⟨(.l 208), .bin .lss (.l 206) (.l 207), none⟩,
    ⟨(.l 209), .mv (.l 208), none⟩,
    ⟨(.l 210), .mv (.p 19), some ((.l 209), true)⟩,
    ⟨(.l 211), .mv (.p 3), some ((.l 209), true)⟩,
    ⟨(.l 212), .bin .lss (.l 210) (.l 211), some ((.l 209), true)⟩,
    ⟨(.l 213), .pick (.l 209) (.l 212) (.c (.bool false)), none⟩])
  (.cond (.l 213)
   (.region [⟨(.l 214), .mv (.p 0), none⟩,
     ⟨(.l 215), .mv (.p 13), none⟩,
     ⟨(.l 216), .mv (.p 19), none⟩,
     ⟨(.l 217), .mv (.p 3), none⟩,
     ⟨(.l 218), .mv (.p 4), none⟩,
     ⟨(.l 219), .call (.c (.fn (.func 230) [] [])) [(.l 214), (.l 215), (.l 216), (.l 217), (.l 218)], none⟩])
   (.skip))
theorem pp1 (C : CSp M) (hb : b < h.length) (hn : n < 2305843009213693952) (A L R B : List Int) {l0 : List Int} {st m en : Int} (h0 : l0 = A ++ L ++ R ++ B) (hl : (A ++ L ++ R ++ B).length = n) (h1 : st = (A.length : Int)) (h2 : m = ((A.length + L.length : Nat) : Int)) (h3 : en = ((A.length + L.length + R.length : Nat) : Int))
    {a1 a3 a5 a6 a7 a8 a9 a10 a11 a12 a13 a14 a16 a17 a18 : AV} {lo : List (Nat × AV)} {wr : List Nat} (hw : Only b wr) {Q : Ex → StW → Prop}
    (hQ : ∀ lo wr l', Only b wr → l' = A ++ R ++ L ++ B → Q .normal ⟨⟨[.sl b 0 n 5 cap, a1, .int .i64 m, a3, g, a5, a6, a7, a8, a9, a10, a11, a12, a13, a14, .int .i64 st, a16, a17, a18, .int .i64 en], lo, h.put b (some (.cells (arr (pf PL) l') 116)), []⟩, wr⟩) :
    W M t230_1 ⟨⟨[.sl b 0 n 5 cap, a1, .int .i64 m, a3, g, a5, a6, a7, a8, a9, a10, a11, a12, a13, a14, .int .i64 st, a16, a17, a18, .int .i64 en], lo, h.put b (some (.cells (arr (pf PL) l0) 116)), []⟩, wr⟩ Q := by
  by_cases e : L ≠ [] ∧ R ≠ []
  · obtain ⟨e1, e2⟩ := e
    have p1 : 0 < L.length := List.length_pos_iff.2 e1
    have p2 : 0 < R.length := List.length_pos_iff.2 e2
    obtain ⟨wr', hw', hc⟩ := r253 (g := g) (cap := cap) C hb hn e1 e2 hl
    subst h0; subst h1; subst h2; subst h3
    unfold t230_1
    repeat' first | apply W.seq | apply SQn | apply W.region | apply WO.nil | (apply W.condT; exact rfl) | (apply WO.gT; exact rfl) | (apply WO.lss; exact rfl; exact rfl; all_goals first | (intro _; exfalso; omega) | intro _) | (apply WO.pkT; exact rfl; exact rfl) | (apply WO.ct; exact rfl; exact rfl; first | exact hc) | (apply WO.pl; exact rfl; exact rfl)
    exact hQ _ _ _ (hw'.app hw) rfl
  · have el : A ++ L ++ R ++ B = A ++ R ++ L ++ B := by
      by_cases e1 : L = []
      · subst e1; simp
      · by_cases e2 : R = []
        · subst e2; simp
        · exact absurd ⟨e1, e2⟩ e
    have p : ¬ (st < m ∧ m < en) := fun ⟨q1, q2⟩ => e ⟨List.length_pos_iff.1 (by omega), List.length_pos_iff.1 (by omega)⟩
    unfold t230_1
    repeat' first | apply W.seq | apply SQn | apply W.region | apply WO.nil | apply W.skip | (apply W.condF; exact rfl) | (apply WO.gT; exact rfl) | (apply WO.sT; exact rfl) | (apply WO.lss; exact rfl; exact rfl; all_goals first | (intro _; exfalso; omega) | intro _) | (apply WO.pkT; exact rfl; exact rfl) | (apply WO.pkF; exact rfl; exact rfl) | (apply WO.pl; exact rfl; exact rfl)
    all_goals first | exact hQ _ _ _ hw (h0.trans el) | (exfalso; omega)
def Mrgp (PL : List Place) (M : Mach) (h : Heap) (b n : Nat) (cap : Option Nat) (g : AV) (key : Int → Int) (A L R B : List Int) : Prop :=
  ∃ S wr, Only b wr ∧ (Sd key S ∧ S.Perm (L ++ R)) ∧ CT M (fn 230) [.sl b 0 n 5 cap, .int .i64 A.length, .int .i64 (A.length + L.length : Nat), .int .i64 (A.length + L.length + R.length : Nat), g] (h.put b (some (.cells (arr (pf PL) (A ++ L ++ R ++ B)) 116))) ⟨.tup [], h.put b (some (.cells (arr (pf PL) (A ++ S ++ B)) 116)), wr⟩
theorem pp2 (A L R B : List Int) (hM : L ≠ [] → R ≠ [] → Mrgp PL M h b n cap g key A L R B) (hL : Sd key L) (hR : Sd key R) {l0 : List Int} {a st mid : Int} (h0 : l0 = A ++ L ++ R ++ B) (h1 : a = (A.length : Int)) (h2 : st = ((A.length + L.length : Nat) : Int)) (h3 : mid = ((A.length + L.length + R.length : Nat) : Int))
    {a2 a3 a5 a6 a7 a8 a9 a10 a11 a12 a14 a16 a17 a18 a19 : AV} {lo : List (Nat × AV)} {wr : List Nat} (hw : Only b wr) {Q : Ex → StW → Prop}
    (hQ : ∀ S lo wr l', Only b wr → Sd key S → S.Perm (L ++ R) → l' = A ++ S ++ B → Q .normal ⟨⟨[.sl b 0 n 5 cap, .int .i64 a, a2, a3, g, a5, a6, a7, a8, a9, a10, a11, a12, .int .i64 mid, a14, .int .i64 st, a16, a17, a18, a19], lo, h.put b (some (.cells (arr (pf PL) l') 116)), []⟩, wr⟩) :
    W M t230_2 ⟨⟨[.sl b 0 n 5 cap, .int .i64 a, a2, a3, g, a5, a6, a7, a8, a9, a10, a11, a12, .int .i64 mid, a14, .int .i64 st, a16, a17, a18, a19], lo, h.put b (some (.cells (arr (pf PL) l0) 116)), []⟩, wr⟩ Q := by
  by_cases e : L ≠ [] ∧ R ≠ []
  · obtain ⟨e1, e2⟩ := e
    have p1 : 0 < L.length := List.length_pos_iff.2 e1
    have p2 : 0 < R.length := List.length_pos_iff.2 e2
    obtain ⟨S, wr', hw', ⟨g1, g2⟩, hc⟩ := hM e1 e2
    subst h0; subst h1; subst h2; subst h3
    unfold t230_2
    repeat' first | apply W.seq | apply SQn | apply W.region | apply WO.nil | (apply W.condT; exact rfl) | (apply WO.gT; exact rfl) | (apply WO.lss; exact rfl; exact rfl; all_goals first | (intro _; exfalso; omega) | intro _) | (apply WO.pkT; exact rfl; exact rfl) | (apply WO.ct; exact rfl; exact rfl; first | exact hc) | (apply WO.pl; exact rfl; exact rfl)
    exact hQ S _ _ _ (hw'.app hw) g1 g2 rfl
  · have es : Sd key (L ++ R) := by
      by_cases e1 : L = []
      · subst e1; exact hR
      · by_cases e2 : R = []
        · subst e2; rw [List.append_nil]; exact hL
        · exact absurd ⟨e1, e2⟩ e
    have p : ¬ (a < st ∧ st < mid) := fun ⟨q1, q2⟩ => e ⟨List.length_pos_iff.1 (by omega), List.length_pos_iff.1 (by omega)⟩
    unfold t230_2
    repeat' first | apply W.seq | apply SQn | apply W.region | apply WO.nil | apply W.skip | (apply W.condF; exact rfl) | (apply WO.gT; exact rfl) | (apply WO.sT; exact rfl) | (apply WO.lss; exact rfl; exact rfl; all_goals first | (intro _; exfalso; omega) | intro _) | (apply WO.pkT; exact rfl; exact rfl) | (apply WO.pkF; exact rfl; exact rfl) | (apply WO.pl; exact rfl; exact rfl)
    all_goals first | exact hQ _ _ _ _ hw es (.refl _) (by rw [h0]; simp) | (exfalso; omega)
theorem pp3 (A L R B : List Int) (hM : L ≠ [] → R ≠ [] → Mrgp PL M h b n cap g key A L R B) (hL : Sd key L) (hR : Sd key R) {l0 : List Int} {mid en e' : Int} (h0 : l0 = A ++ L ++ R ++ B) (h1 : mid = (A.length : Int)) (h2 : en = ((A.length + L.length : Nat) : Int)) (h3 : e' = ((A.length + L.length + R.length : Nat) : Int))
    {a1 a2 a5 a6 a7 a8 a9 a10 a11 a12 a14 a15 a16 a17 a18 : AV} {lo : List (Nat × AV)} {wr : List Nat} (hw : Only b wr) {Q : Ex → StW → Prop}
    (hQ : ∀ S lo wr l', Only b wr → Sd key S → S.Perm (L ++ R) → l' = A ++ S ++ B → Q .normal ⟨⟨[.sl b 0 n 5 cap, a1, a2, .int .i64 e', g, a5, a6, a7, a8, a9, a10, a11, a12, .int .i64 mid, a14, a15, a16, a17, a18, .int .i64 en], lo, h.put b (some (.cells (arr (pf PL) l') 116)), []⟩, wr⟩) :
    W M t230_3 ⟨⟨[.sl b 0 n 5 cap, a1, a2, .int .i64 e', g, a5, a6, a7, a8, a9, a10, a11, a12, .int .i64 mid, a14, a15, a16, a17, a18, .int .i64 en], lo, h.put b (some (.cells (arr (pf PL) l0) 116)), []⟩, wr⟩ Q := by
  by_cases e : L ≠ [] ∧ R ≠ []
  · obtain ⟨e1, e2⟩ := e
    have p1 : 0 < L.length := List.length_pos_iff.2 e1
    have p2 : 0 < R.length := List.length_pos_iff.2 e2
    obtain ⟨S, wr', hw', ⟨g1, g2⟩, hc⟩ := hM e1 e2
    subst h0; subst h1; subst h2; subst h3
    unfold t230_3
    repeat' first | apply W.seq | apply SQn | apply W.region | apply WO.nil | (apply W.condT; exact rfl) | (apply WO.gT; exact rfl) | (apply WO.lss; exact rfl; exact rfl; all_goals first | (intro _; exfalso; omega) | intro _) | (apply WO.pkT; exact rfl; exact rfl) | (apply WO.ct; exact rfl; exact rfl; first | exact hc) | (apply WO.pl; exact rfl; exact rfl)
    exact hQ S _ _ _ (hw'.app hw) g1 g2 rfl
  · have es : Sd key (L ++ R) := by
      by_cases e1 : L = []
      · subst e1; exact hR
      · by_cases e2 : R = []
        · subst e2; rw [List.append_nil]; exact hL
        · exact absurd ⟨e1, e2⟩ e
    have p : ¬ (mid < en ∧ en < e') := fun ⟨q1, q2⟩ => e ⟨List.length_pos_iff.1 (by omega), List.length_pos_iff.1 (by omega)⟩
    unfold t230_3
    repeat' first | apply W.seq | apply SQn | apply W.region | apply WO.nil | apply W.skip | (apply W.condF; exact rfl) | (apply WO.gT; exact rfl) | (apply WO.sT; exact rfl) | (apply WO.lss; exact rfl; exact rfl; all_goals first | (intro _; exfalso; omega) | intro _) | (apply WO.pkT; exact rfl; exact rfl) | (apply WO.pkF; exact rfl; exact rfl) | (apply WO.pl; exact rfl; exact rfl)
    all_goals first | exact hQ _ _ _ _ hw es (.refl _) (by rw [h0]; simp) | (exfalso; omega)
end Go.Ab.Ch6.Srp
