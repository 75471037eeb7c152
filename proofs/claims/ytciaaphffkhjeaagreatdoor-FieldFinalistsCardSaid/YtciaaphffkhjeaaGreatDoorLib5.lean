/-
  Own work: chapter 6: ranks by the program; finalists by both.
-/
import Derived.Test.YtciaaphffkhjeaaGreatDoorLib4
import Derived.Test.YtciaaphffkhjeaaGreatDoorLib3
import Derived.Test.YtciaaphffkhjeaaGreatDoorLib2
import Derived.Deep.Slices
import Derived.Deep.Strs
import Derived.Lib.SmallJoins
import Derived.ChangeSame
namespace Go.Ab.Ch6
variable {M : Mach} {cap c1 c2 : Option Nat}
abbrev listsC (ls : List (List Int)) : List AV := arr lsC ls
def fineT (l : List Int) : Prop := l.length ≤ 12 ∧ ∀ y ∈ l, y < 1000000
theorem set_mid {A B : List Int} {x y : Int} {j : Nat} (hj : j = A.length) : (A ++ x :: B).set j y = A ++ y :: B := by
  subst hj
  rw [List.set_append_right _ _ (Nat.le_refl _), Nat.sub_self]; rfl
set_option maxHeartbeats 1000000 in
theorem w123 (hft : M.FT = FT) (c185 : ∀ (l : List Int) h, fineT l → M.ext 185 [.vs (ints l) l.length none] h = some ⟨.vs (ints (serL l)) (serL l).length none, h, []⟩) (c139 : ∀ (a b : List Int) c1 c2 h, a.length < 1000000 → M.ext 139 [.vs (ints a) a.length c1, .vs (ints b) b.length c2] h = some ⟨.int .i64 (cmpL a b), h, []⟩)
    (ls : List (List Int)) (hl : ls.length < 1000000) (hL : ∀ x ∈ ls, fineT x) : ∃ v hh, FrN hh v (.vs (ints (ranksL ls)) ls.length none) ∧ Run M 123 [.vs (listsC ls) ls.length cap] [] ⟨v, hh, []⟩ := by
  have hget : ∀ i, i < ls.length → fineT ls[i]! := fun i hi => hL _ (by rw [getElem!_pos ls i hi]; exact List.getElem_mem hi)
  have hser : ∀ i, i < ls.length → (serL ls[i]!).length < 1000000 := fun i hi => by
    rw [kept_len]
    have := List.length_filter_le (fun x : Int => decide (0 ≤ x)) ls[i]!
    have := (hget i hi).1
    unfold kept; omega
  have hrl := ranksL_len ls
  refine run_ofE (P := fun v hh => FrN hh v (.vs (ints (ranksL ls)) ls.length none)) (by rw [hft]; exact ft123) (by simp) ?_
  unfold b123
  simp only [List.map_cons, List.map_nil, List.getElem?_cons_zero, List.getElem?_cons_succ, List.getElem?_nil, Option.getD_some, Option.getD_none]
  repeat' first | apply W.seq | apply SQn | apply W.region | apply WO.nil | apply W.block | (apply WO.mki; exact rfl; exact rfl; omega) | (apply WO.pl; exact rfl; exact rfl) | (apply WO.pp; exact rfl; exact rfl)
  refine W.loopI ls.length (fun i s => ∃ a3 a4 a5 a6 a10 a11 a12 lo wr, s = ⟨⟨[.vs (listsC ls) ls.length cap, .nilsl, .sl 0 0 ls.length 1 (some ls.length), a3, a4, a5, a6, .vs (listsC ls) ls.length cap, .int .i64 ls.length, .int .i64 i, a10, a11, a12], lo, [some (.cells (ints ((ranksL ls).take i ++ List.replicate (ls.length - i) 0)) 3)], []⟩, wr⟩) (fun i s hi ⟨a3, a4, a5, a6, a10, a11, a12, lo, wr, hs⟩ => ?_) (fun s ⟨a3, a4, a5, a6, a10, a11, a12, lo, wr, hs⟩ => ?_) (Nat.zero_le _) ⟨_, _, _, _, _, _, _, _, _, rfl⟩
  · subst hs
    have etk := ranksL_take (ls := ls) (i := i) hi
    have htl : ((ranksL ls).take i).length = i := by rw [List.length_take]; omega
    have q185 := fun h => c185 ls[((i : Int)).toNat]! h (hget i hi)
    have hs1 := hser i hi
    have hr : rankOf ls ls[i]! = if serL ls[((i : Int)).toNat]! = [] then (0 : Int) else 1 + ((ls.countP fun y => lexGt (serL y) (serL ls[((i : Int)).toNat]!) : Nat) : Int) := rfl
    rw [show ls[i]! = ls[((i : Int)).toNat]! from rfl] at hs1
    obtain ⟨S, hS⟩ : ∃ S, S = serL ls[((i : Int)).toNat]! := ⟨_, rfl⟩
    rw [← hS] at hr hs1 q185
    have erep : List.replicate (ls.length - i) (0 : Int) = 0 :: List.replicate (ls.length - (i + 1)) 0 := by
      rw [show ls.length - i = ls.length - (i + 1) + 1 by omega, List.replicate_succ]
    rw [erep]
    obtain ⟨A, hA⟩ : ∃ A, A = (ranksL ls).take i := ⟨_, rfl⟩
    obtain ⟨R, hR⟩ : ∃ R, R = List.replicate (ls.length - (i + 1)) (0 : Int) := ⟨_, rfl⟩
    rw [etk, ← hA, ← hR]
    rw [← hA] at htl
    have hRl : R.length = ls.length - (i + 1) := by rw [hR, List.length_replicate]
    unfold b123_1
    by_cases h0 : S = []
    · rw [if_pos h0] at hr
      have hl0 : (S.length : Int) = 0 := by rw [h0]; rfl
      repeat' first | apply W.seq | apply SQn | apply W.region | apply WO.nil | apply W.block | apply W.exit | apply W.skip | apply SQe | apply BQe | (apply W.condT; exact rfl) | (apply WO.lss; exact rfl; exact rfl; all_goals first | (intro _; exfalso; omega) | intro _) | (apply WO.eql; exact rfl; exact rfl; all_goals first | (intro _; exfalso; omega) | intro _) | (apply WO.add; exact rfl; exact rfl; omega) | (apply WO.cll; exact rfl; exact rfl; first | exact q185 _) | (apply WO.iav; exact rfl; exact rfl; omega) | (apply WO.lda; exact rfl; exact fun _ => rfl; (first | omega | (simp only [List.length_set]; omega) | (simp; omega)); decide; exact rfl; case ia => infer_instance) | (apply WO.pl; exact rfl; exact rfl) | (apply WO.pp; exact rfl; exact rfl)
      rw [hr]
      exact LIn ⟨_, _, _, _, _, _, _, _, _, by rw [List.append_assoc]; rfl⟩
    · rw [if_neg h0] at hr
      have hl0 : (S.length : Int) ≠ 0 := by have := List.length_pos_iff.2 h0; omega
      have b1 : ((i : Int)).toNat < (A ++ 0 :: R).length := by simp; omega
      repeat' first | apply W.seq | apply SQn | apply W.region | apply WO.nil | apply W.block | apply W.skip | (apply W.condT; exact rfl) | (apply W.condF; exact rfl) | (apply WO.lss; exact rfl; exact rfl; all_goals first | (intro _; exfalso; omega) | intro _) | (apply WO.eql; exact rfl; exact rfl; all_goals first | (intro _; exfalso; omega) | intro _) | (apply WO.cll; exact rfl; exact rfl; first | exact q185 _) | (apply WO.iav; exact rfl; exact rfl; omega) | (apply WO.ias; exact rfl; exact rfl; omega) | (apply WO.lda; exact rfl; exact fun _ => rfl; (first | omega | (simp only [List.length_set]; omega) | (simp; omega)); decide; exact rfl; case ia => infer_instance) | (apply WO.sta; exact rfl; exact rfl; (first | exact rfl | assumption | exact at_new | (apply at_old; assumption) | (apply at_put; first | assumption | (simp only [put_length]; assumption))); exact fun _ => rfl; (first | omega | (simp only [List.length_set]; omega) | (simp; omega)); exact ⟨rfl, by decide, rfl⟩; exact rfl; case ia => infer_instance) | (apply WO.pl; exact rfl; exact rfl) | (apply WO.pp; exact rfl; exact rfl)
      rw [show (A ++ 0 :: R).set ((i : Int)).toNat 1 = A ++ 1 :: R from set_mid (by omega)]
      refine W.loopI ls.length (fun k s => ∃ a6 lo wr, s = ⟨⟨[.vs (listsC ls) ls.length cap, .nilsl, .sl 0 0 ls.length 1 (some ls.length), .int .i64 i, .vs (ints ls[((i : Int)).toNat]!) (ls[((i : Int)).toNat]!).length none, .vs (ints S) S.length none, a6, .vs (listsC ls) ls.length cap, .int .i64 ls.length, .int .i64 i, .vs (listsC ls) ls.length cap, .int .i64 ls.length, .int .i64 k], lo, [some (.cells (ints (A ++ ((1 : Int) + (((ls.take k).countP fun y => lexGt (serL y) S : Nat) : Int)) :: R)) 3)], []⟩, wr⟩) (fun k s hk ⟨a6, lo, wr, hs⟩ => ?_) (fun s ⟨a6, lo, wr, hs⟩ => ?_) (Nat.zero_le _) ⟨_, _, _, rfl⟩
      · subst hs
        have q185k := fun h => c185 ls[((k : Int)).toNat]! h (hget k hk)
        have hsk := hser k hk
        rw [show ls[k]! = ls[((k : Int)).toNat]! from rfl] at hsk
        have q139 := fun h => c139 (serL ls[((k : Int)).toNat]!) S none none h hsk
        have ec := countP_take (p := fun y => lexGt (serL y) S) (l := ls) (i := k) hk
        rw [show ls[k]! = ls[((k : Int)).toNat]! from rfl] at ec
        have hcl : (ls.take k).countP (fun y => lexGt (serL y) S) ≤ k := Nat.le_trans List.countP_le_length (by rw [List.length_take]; omega)
        have hgt := cmpL_gt (serL ls[((k : Int)).toNat]!) S
        generalize hc : ((ls.take k).countP fun y => lexGt (serL y) S) = c at *
        have b2 : ((i : Int)).toNat < (A ++ (1 + (c : Int)) :: R).length := by simp; omega
        have g2 : (A ++ (1 + (c : Int)) :: R)[((i : Int)).toNat]! = 1 + c := get_at (by omega)
        unfold b123_0
        cases hg : lexGt (serL ls[((k : Int)).toNat]!) S
        · rw [hg] at hgt ec
          have hle : cmpL (serL ls[((k : Int)).toNat]!) S ≤ 0 := by
            rcases Int.lt_or_le 0 (cmpL (serL ls[((k : Int)).toNat]!) S) with h | h
            · exact absurd (hgt.1 h) (by simp)
            · exact h
          repeat' first | apply W.seq | apply SQn | apply W.region | apply WO.nil | apply W.block | apply W.skip | apply BQn | (apply W.condT; exact rfl) | (apply W.condF; exact rfl) | (apply WO.lss; exact rfl; exact rfl; all_goals first | (intro _; exfalso; omega) | intro _) | (apply WO.gtr; exact rfl; exact rfl; all_goals first | (intro _; exfalso; omega) | intro _) | (apply WO.add; exact rfl; exact rfl; omega) | (apply WO.cll; exact rfl; exact rfl; first | exact q185k _ | exact q139 _) | (apply WO.iav; exact rfl; exact rfl; omega) | (apply WO.lda; exact rfl; exact fun _ => rfl; (first | omega | (simp only [List.length_set]; omega) | (simp; omega)); decide; exact rfl; case ia => infer_instance) | (apply WO.pl; exact rfl; exact rfl) | (apply WO.pp; exact rfl; exact rfl)
          rw [ec]
          exact LIn ⟨_, _, _, rfl⟩
        · rw [hg] at hgt ec
          have hlt := hgt.2 rfl
          repeat' first | apply W.seq | apply SQn | apply W.region | apply WO.nil | apply W.block | apply W.skip | apply BQn | (apply W.condT; exact rfl) | (apply WO.lss; exact rfl; exact rfl; all_goals first | (intro _; exfalso; omega) | intro _) | (apply WO.gtr; exact rfl; exact rfl; all_goals first | (intro _; exfalso; omega) | intro _) | (apply WO.add; exact rfl; exact rfl; omega) | (apply WO.cll; exact rfl; exact rfl; first | exact q185k _ | exact q139 _) | (apply WO.iav; exact rfl; exact rfl; omega) | (apply WO.ias; exact rfl; exact rfl; omega) | (apply WO.lda; exact rfl; exact fun _ => rfl; (first | omega | (simp only [List.length_set]; omega) | (simp; omega)); decide; exact rfl; case ia => infer_instance) | (apply WO.lsa; exact rfl; (first | exact rfl | assumption | exact at_new | (apply at_old; assumption) | (apply at_put; first | assumption | (simp only [put_length]; assumption))); exact fun _ => rfl; (first | omega | (simp only [List.length_set]; omega) | (simp; omega)); decide; exact rfl; case ia => infer_instance) | (apply WO.sta; exact rfl; exact rfl; (first | exact rfl | assumption | exact at_new | (apply at_old; assumption) | (apply at_put; first | assumption | (simp only [put_length]; assumption))); exact fun _ => rfl; (first | omega | (simp only [List.length_set]; omega) | (simp; omega)); exact ⟨rfl, by decide, rfl⟩; exact rfl; case ia => infer_instance) | (apply WO.pl; exact rfl; exact rfl) | (apply WO.pp; exact rfl; exact rfl)
          rw [ec, g2, show (A ++ (1 + (c : Int)) :: R).set ((i : Int)).toNat (1 + (c : Int) + 1) = A ++ (1 + (c : Int) + 1) :: R from set_mid (by omega)]
          exact LIn ⟨_, _, _, by rw [if_pos rfl, show (1 : Int) + ((c + 1 : Nat) : Int) = 1 + (c : Int) + 1 by omega]; rfl⟩
      · subst hs
        rw [List.take_length]
        rw [← hr]
        unfold b123_0
        repeat' first | apply W.seq | apply SQn | apply W.region | apply WO.nil | apply W.exit | apply SQe | apply BQn | apply BQe | apply LIe | (apply W.condF; exact rfl) | (apply WO.lss; exact rfl; exact rfl; all_goals first | (intro _; exfalso; omega) | intro _) | (apply WO.add; exact rfl; exact rfl; omega) | (apply WO.pp; exact rfl; exact rfl)
        exact LIn ⟨_, _, _, _, _, _, _, _, _, by rw [List.append_assoc]; rfl⟩
  · subst hs
    rw [Nat.sub_self, List.replicate_zero, List.append_nil, List.take_of_length_le (by omega)]
    unfold b123_1
    repeat' first | apply W.seq | apply SQn | apply W.region | apply WO.nil | apply W.ret | apply W.exit | apply SQe | apply BQe | apply LIe | (apply W.condF; exact rfl) | (apply WO.lss; exact rfl; exact rfl; all_goals first | (intro _; exfalso; omega) | intro _) | (apply WO.pl; exact rfl; exact rfl) | (apply WO.pp; exact rfl; exact rfl)
    refine ⟨.inr rfl, rfl, _, rfl, [0], ?_, rfl, fun b l' e hb hl => ?_⟩
    rotate_left
    · rw [List.mem_singleton.1 hb] at hl
      cases hl
      exact novL_arr (fun _ => rfl) _
    have := frz_cells (f := inC) (esz := 1) (e := 3) (hp := [some (.cells (ints (ranksL ls)) 3)]) (c := 0) (cap := some ls.length) (fun _ => rfl) (fun _ => rfl) rfl hrl
    rw [hrl] at this
    exact this
end Go.Ab.Ch6

/-
  Own work: chapter 6: the finalists by the program.
-/
namespace Go.Ab.Ch6
open Go.Ab.Sort
variable {M : Mach} {cap c1 c2 : Option Nat}
theorem f227 (C : CS M) (g : AV) (hp : Heap) : CT M (fn 227) [.nilsl, .int .i64 0, .int .i64 0, g] hp ⟨.tup [], hp, []⟩ := by
  refine ct_of_run C.n227 (run_same (by rw [C.ft]; exact ft227) (by simp) ?_)
  unfold b227
  simp only [List.map_cons, List.map_nil, List.getElem?_cons_zero, List.getElem?_cons_succ, List.getElem?_nil, Option.getD_some, Option.getD_none]
  repeat' first | apply W.seq | apply SQn | apply W.region | apply WO.nil | apply W.block | (apply WO.add; exact rfl; exact rfl; omega) | (apply WO.pl; exact rfl; exact rfl) | (apply WO.pp; exact rfl; exact rfl)
  refine W.loop ?_
  unfold b227_1
  repeat' first | apply W.seq | apply SQn | apply W.region | apply WO.nil | apply W.exit | apply SQe | apply BQe | apply LQe | (apply W.condF; exact rfl) | (apply WO.lss; exact rfl; exact rfl; all_goals first | (intro _; exfalso; omega) | intro _) | (apply WO.pl; exact rfl; exact rfl)
  exact ⟨.inl rfl, rfl, rfl, rfl, _, rfl, rfl⟩
theorem f187 (C : CS M) (g : AV) (hp : Heap) : CT M (fn 187) [.nilsl, .int .i64 0, g] hp ⟨.tup [], hp, []⟩ := by
  have q := f227 C g hp
  refine ct_of_run C.n187 (run_same (by rw [C.ft]; exact ft187) (by simp) ?_)
  unfold b187
  simp only [List.map_cons, List.map_nil, List.getElem?_cons_zero, List.getElem?_cons_succ, List.getElem?_nil, Option.getD_some, Option.getD_none]
  repeat' first | apply W.seq | apply SQn | apply W.region | apply WO.nil | apply W.block | (apply WO.pl; exact rfl; exact rfl) | (apply WO.pp; exact rfl; exact rfl)
  refine W.loop ?_
  unfold b187_0
  repeat' first | apply W.seq | apply SQn | apply W.region | apply WO.nil | apply W.block | apply W.exit | apply SQe | apply BQe | apply LQe | (apply W.condF; exact rfl) | (apply WO.leq; exact rfl; exact rfl; all_goals first | (intro _; exfalso; omega) | intro _) | (apply WO.ct; exact rfl; exact rfl; first | exact q) | (apply WO.pl; exact rfl; exact rfl)
  refine W.loop ?_
  unfold b187_2
  repeat' first | apply W.seq | apply SQn | apply W.region | apply WO.nil | apply W.exit | apply SQe | apply BQe | apply LQe | (apply W.condF; exact rfl) | (apply WO.lss; exact rfl; exact rfl; all_goals first | (intro _; exfalso; omega) | intro _) | (apply WO.pl; exact rfl; exact rfl)
  exact ⟨.inl rfl, rfl, rfl, rfl, _, rfl, rfl⟩
theorem f128 (C : CS M) (g : AV) (hp : Heap) : CT M (fn 128) [.nilsl, g] hp ⟨.tup [], hp, []⟩ := by
  have q := f187 C g hp
  refine ct_of_run C.n128 (run_same (by rw [C.ft]; exact ft128) (by simp) ?_)
  unfold b128
  simp only [List.map_cons, List.map_nil, List.getElem?_cons_zero, List.getElem?_cons_succ, List.getElem?_nil, Option.getD_some, Option.getD_none]
  repeat' first | apply W.region | apply WO.nil | (apply WO.ct; exact rfl; exact rfl; first | exact q) | (apply WO.pl; exact rfl; exact rfl)
  exact ⟨.inl rfl, rfl, rfl, rfl, _, rfl, rfl⟩
structure CFin (M : Mach) : Prop extends CS M where
  n129 : ∀ ars h, M.ext 129 ars h = none
  c123 : ∀ (ls : List (List Int)) v h, Sl lsC h v ls → ls.length < 1000000 → (∀ x ∈ ls, fineT x) → M.ext 123 [v] h = some ⟨.vs (ints (ranksL ls)) (ranksL ls).length none, h, []⟩
theorem q129 (C : CFin M) (own : List Int) (hl : own.length < 1000000) (ho : ∀ x ∈ own, 0 ≤ x ∧ x < 1000000) (ob : Nat) (H : Heap) (hH : H.at ob = some (.cells [.vs (ints own) own.length none] 25)) (x y : Int) (hx : 0 ≤ x ∧ x < own.length) (hy : 0 ≤ y ∧ y < own.length) :
    CT M (.fn (.func 129) [] [.ptr ob 0]) [.int .i64 x, .int .i64 y] H ⟨.int .i64 (keyO own y - keyO own x), H, []⟩ := by
  have hxk : keyO own x = own[x.toNat]! := by rw [keyO, List.getD_eq_getElem?_getD, getElem!_pos own _ (by omega), List.getElem?_eq_getElem (by omega)]; rfl
  have hyk : keyO own y = own[y.toNat]! := by rw [keyO, List.getD_eq_getElem?_getD, getElem!_pos own _ (by omega), List.getElem?_eq_getElem (by omega)]; rfl
  have bx := ho own[x.toNat]! (by rw [getElem!_pos own _ (by omega)]; exact List.getElem_mem _)
  have bY := ho own[y.toNat]! (by rw [getElem!_pos own _ (by omega)]; exact List.getElem_mem _)
  rw [hxk, hyk]
  refine CT.run (C.n129 _ _) (run_same (by rw [C.ft]; exact ft129) (by simp) ?_)
  unfold b129
  simp only [List.nil_append, List.cons_append]
  simp only [List.map_cons, List.map_nil, List.getElem?_cons_zero, List.getElem?_cons_succ, List.getElem?_nil, Option.getD_some, Option.getD_none]
  repeat' first | apply W.seq | apply SQn | apply W.region | apply WO.nil | apply W.ret | (apply W.drawro; exact rfl) | (apply WO.sub; exact rfl; exact rfl; omega) | (apply WO.ldK; exact rfl; exact hH; exact rfl) | (apply WO.iav; exact rfl; exact rfl; omega) | (apply WO.lda; exact rfl; exact fun _ => rfl; (first | omega | (simp only [List.length_set]; omega) | (simp; omega)); decide; exact rfl; case ia => infer_instance) | (apply WO.pl; exact rfl; exact rfl) | (apply WO.pp; exact rfl; exact rfl)
  exact ⟨.inr rfl, rfl, rfl, rfl, _, rfl, rfl⟩
theorem finP_succ {own : List Int} {F : Int} {i : Nat} (h : i < own.length) : (numsTo (i + 1)).filter (fun i => decide (0 < own.getD i.toNat 0 ∧ own.getD i.toNat 0 ≤ F)) = (numsTo i).filter (fun i => decide (0 < own.getD i.toNat 0 ∧ own.getD i.toNat 0 ≤ F)) ++ if 0 < own[i]! ∧ own[i]! ≤ F then [(i : Int)] else [] := by
  have e : own.getD ((i : Int)).toNat 0 = own[i]! := by rw [Int.toNat_natCast, List.getD_eq_getElem?_getD, getElem!_pos own i h, List.getElem?_eq_getElem h]; rfl
  rw [numsTo_succ, List.filter_append, List.filter_cons]
  congr 1
  by_cases hc : 0 < own[i]! ∧ own[i]! ≤ F
  · rw [if_pos hc, if_pos (by rw [decide_eq_true_eq, e]; exact hc)]; rfl
  · rw [if_neg hc, if_neg (by rw [decide_eq_true_eq, e]; exact hc)]; rfl
theorem rankOf_bounds (ls : List (List Int)) (x : List Int) : 0 ≤ rankOf ls x ∧ rankOf ls x ≤ ls.length + 1 := by
  unfold rankOf
  split
  · omega
  · have := List.countP_le_length (p := fun y => lexGt (serL y) (serL x)) (l := ls)
    omega
theorem ranks_bounds {ls : List (List Int)} (hl : ls.length < 900000) : ∀ x ∈ ranksL ls, 0 ≤ x ∧ x < 1000000 := fun x hx => by
  rw [ranksL, List.mem_map] at hx
  obtain ⟨y, _, rfl⟩ := hx
  have := rankOf_bounds ls y
  omega
theorem cut_len (t : Int) (l : List Row) : (cutT t l).length = l.length := by simp [cutT]
theorem cut_take {t : Int} {l : List Row} {i : Nat} (h : i < l.length) : cutT t (l.take (i + 1)) = cutT t (l.take i) ++ [(l[i]!).tr.take t.toNat] := by
  rw [take_snoc' h]; simp [cutT]
set_option maxHeartbeats 2000000 in
theorem w81 (C : CFin M) (names : List Str) (t : Int) (F : Nat) (m : Int) (ht : 0 ≤ t ∧ t < 1000000) (l : List Row) (hl : l.length < 900000) (hL : ∀ r ∈ l, fineT r.tr) :
    ∃ v hh, FrN hh v (.vs (ints (finI t F l)) (finI t F l).length none) ∧ Run M 81 [.agg (contC names c1 t F m), .vs (rowsC l) l.length cap] [] ⟨v, hh, []⟩ := by
  refine run_ofE (P := fun v hh => FrN hh v (.vs (ints (finI t F l)) (finI t F l).length none)) (by rw [C.ft]; exact ft81) (by simp) ?_
  unfold b81
  simp only [List.map_cons, List.map_nil, List.getElem?_cons_zero, List.getElem?_cons_succ, List.getElem?_nil, Option.getD_some, Option.getD_none]
  repeat' first | apply W.seq | apply SQn | apply W.region | apply WO.nil | apply W.block | (apply WO.hpv; exact rfl; exact rfl; exact rfl) | (apply WO.pp; exact rfl; exact rfl)
  refine W.loopI l.length (fun i s => ∃ o a5 lo K wr, s = ⟨⟨[.agg (contC names c1 t F m), .vs (rowsC l) l.length cap, .ptr 0 0, .nilsl, o, a5, undefA, undefA, undefA, undefA, .vs (rowsC l) l.length cap, .int .i64 l.length, .int .i64 i, undefA, undefA, undefA], lo, K, []⟩, wr⟩ ∧ OutE lsC 1 25 K o (cutT t (l.take i)) [0] ∧ K.at 0 = some (.cells (contC names c1 t F m) 32)) (fun i s hi ⟨o, a5, lo, K, wr, hs, ho, hK⟩ => ?_) (fun s ⟨o, a5, lo, K, wr, hs, ho, hK⟩ => ?_) (Nat.zero_le _) ⟨_, _, _, _, _, rfl, .ofNil, rfl⟩
  · subst hs
    have hK0 := at_lt hK
    have e := cut_take (t := t) hi
    rw [show l[i]! = l[((i : Int)).toNat]! from rfl] at e
    have hmin : ∃ n : Nat, (n : Int) ≤ (l[((i : Int)).toNat]!).tr.length ∧ ((n : Int) = t ∧ t ≤ (l[((i : Int)).toNat]!).tr.length ∨ (n : Int) = (l[((i : Int)).toNat]!).tr.length ∧ ((l[((i : Int)).toNat]!).tr.length : Int) ≤ t) ∧ (l[((i : Int)).toNat]!).tr.take ((n : Int)).toNat = (l[((i : Int)).toNat]!).tr.take t.toNat := by
      rcases Int.le_total t (l[((i : Int)).toNat]!).tr.length with h | h
      · exact ⟨t.toNat, by omega, .inl ⟨by omega, h⟩, by congr 1⟩
      · refine ⟨(l[((i : Int)).toNat]!).tr.length, Int.le_refl _, .inr ⟨rfl, h⟩, ?_⟩
        rw [List.take_of_length_le (by omega), List.take_of_length_le (by omega)]
    obtain ⟨n, hn1, hn2, hn3⟩ := hmin
    unfold b81_0
    repeat' first | (apply WO.ldK; exact rfl; exact at_old hK; exact rfl) | (apply WO.min2 (m := (n : Int)); exact rfl; exact rfl; exact hn2) | (apply WO.svb (f := inC); exact rfl; exact rfl; exact fun _ => rfl; omega) | apply W.seq | apply SQn | apply W.region | apply WO.nil | apply W.block | apply W.skip | (apply W.condT; exact rfl) | (apply WO.lss; exact rfl; exact rfl; all_goals first | (intro _; exfalso; omega) | intro _) | (apply WO.stK; exact rfl; exact rfl; exact ⟨rfl, by first | exact Nat.le_refl _ | decide | (simp [overwrite]), rfl⟩; exact rfl) | (apply WO.ldK; exact rfl; (first | exact at_new | assumption | exact at_old at_new | exact at_old (at_old at_new) | exact at_old (at_old (at_old at_new)) | exact at_put (by simp) | ((repeat apply at_old); assumption)); exact rfl) | (apply WO.iav; exact rfl; exact rfl; omega) | (apply WO.lda; exact rfl; exact fun _ => rfl; (first | omega | (simp only [List.length_set]; omega) | (simp; omega)); decide; exact rfl; case ia => infer_instance) | (apply WO.hlv; exact rfl; exact rfl; exact rfl) | (apply WO.hpv; exact rfl; exact rfl; exact rfl) | (apply WO.pl; exact rfl; exact rfl)
    rw [hn3]
    refine OutE.app (f := lsC) (m := [(l[((i : Int)).toNat]!).tr.take t.toNat]) (S := [0]) (fun _ => rfl) (fun _ => rfl) (by decide) ((ho.grow [_]).grow [_]) (fun x hx => by rw [List.mem_singleton.1 hx]; simp) rfl rfl (Sl.ofAt (f := lsC) (esz := 1) (l := [(l[((i : Int)).toNat]!).tr.take t.toNat]) (e := 25) (fun _ => rfl) at_new rfl) (by rw [cut_len, List.length_take]; unfold roomLimit; simp; omega) (fun H w' o' ho' hk hlen => ?_)
    repeat' first | apply SQn | apply W.region | apply WO.nil | apply BQn | (apply WO.add; exact rfl; exact rfl; omega) | (apply WO.pp; exact rfl; exact rfl)
    exact LIn ⟨_, _, _, _, _, rfl, by rw [e]; exact ho', hk _ _ (List.mem_singleton.2 rfl) (at_old (at_old hK))⟩
  · subst hs
    rw [List.take_length] at ho
    have hls : ∀ x ∈ cutT t l, fineT x := fun x hx => by
      rw [cutT, List.mem_map] at hx
      obtain ⟨r, hr, rfl⟩ := hx
      have := hL r hr
      exact ⟨by rw [List.length_take]; have := this.1; omega, fun y hy => this.2 y (List.mem_of_mem_take hy)⟩
    have q123 := C.c123 (cutT t l) o K (ho.sl (fun _ => rfl)) (by rw [cut_len]; omega) hls
    obtain ⟨own, hown⟩ : ∃ own, own = ranksL (cutT t l) := ⟨_, rfl⟩
    have hol : own.length = l.length := by rw [hown, ranksL_len, cut_len]
    have hob : ∀ x ∈ own, 0 ≤ x ∧ x < 1000000 := by rw [hown]; exact ranks_bounds (by rw [cut_len]; exact hl)
    rw [← hown] at q123
    have hK0 := at_lt hK
    unfold b81_0
    repeat' first | apply W.seq | apply SQn | apply W.region | apply WO.nil | apply W.block | apply W.exit | apply SQe | apply BQe | apply LIe | (apply W.condF; exact rfl) | (apply WO.lss; exact rfl; exact rfl; all_goals first | (intro _; exfalso; omega) | intro _) | (apply WO.stK; exact rfl; exact rfl; exact ⟨rfl, by first | exact Nat.le_refl _ | decide | (simp [overwrite]), rfl⟩; exact rfl) | (apply WO.cll; exact rfl; exact rfl; first | exact q123) | (apply WO.ldbp; exact rfl; exact at_new; exact rfl) | (apply WO.hpv; exact rfl; exact rfl; exact rfl) | (apply WO.pl; exact rfl; exact rfl) | (apply WO.pp; exact rfl; exact rfl)
    obtain ⟨ob, hob2⟩ : ∃ ob, ob = K.length := ⟨_, rfl⟩
    rw [← hob2]
    have hS : ∀ K' : Heap, K'.at 0 = some (.cells (contC names c1 t F m) 32) → K'.at ob = some (.cells [.vs (ints own) own.length none] 25) → ∀ x ∈ [0, ob], x < K'.length := fun K' h1 h2 x hx => by
      rcases List.mem_cons.1 hx with rfl | hx
      · exact at_lt h1
      · rw [List.mem_singleton.1 hx]; exact at_lt h2
    refine W.loopI own.length (fun i s => ∃ q a8 a9 lo K wr, s = ⟨⟨[.agg (contC names c1 t F m), .vs (rowsC l) l.length cap, .ptr 0 0, .nilsl, o, a5, .ptr ob 0, q, a8, a9, .vs (rowsC l) l.length cap, .int .i64 l.length, .int .i64 l.length, .vs (ints own) own.length none, .int .i64 own.length, .int .i64 i], lo, K, []⟩, wr⟩ ∧ OutE inC 1 3 K q ((numsTo i).filter fun i => decide (0 < own.getD i.toNat 0 ∧ own.getD i.toNat 0 ≤ (F : Int))) [0, ob] ∧ K.at 0 = some (.cells (contC names c1 t F m) 32) ∧ K.at ob = some (.cells [.vs (ints own) own.length none] 25)) (fun i s hi ⟨q, a8, a9, lo, K, wr, hs, hq, hK1, hK2⟩ => ?_) (fun s ⟨q, a8, a9, lo, K, wr, hs, hq, hK1, hK2⟩ => ?_) (Nat.zero_le _) ⟨_, _, _, _, _, _, rfl, .ofNil, at_old hK, by rw [hob2]; exact at_new⟩
    · subst hs
      have hlt := hS K hK1 hK2
      have e := finP_succ (F := F) hi
      rw [show own[i]! = own[((i : Int)).toNat]! from rfl] at e
      have hfl : ((numsTo i).filter fun i => decide (0 < own.getD i.toNat 0 ∧ own.getD i.toNat 0 ≤ (F : Int))).length ≤ i := Nat.le_trans (List.length_filter_le _ _) (by rw [numsTo_length]; exact Nat.le_refl _)
      unfold b81_1
      by_cases h1 : 0 < own[((i : Int)).toNat]!
      · by_cases h2 : own[((i : Int)).toNat]! ≤ F
        · rw [if_pos ⟨h1, h2⟩] at e
          repeat' first | apply W.seq | apply SQn | apply W.region | apply WO.nil | apply W.block | apply W.skip | (apply W.condT; exact rfl) | (apply WO.gT; exact rfl) | (apply WO.lss; exact rfl; exact rfl; all_goals first | (intro _; exfalso; omega) | intro _) | (apply WO.leq; exact rfl; exact rfl; all_goals first | (intro _; exfalso; omega) | intro _) | (apply WO.gtr; exact rfl; exact rfl; all_goals first | (intro _; exfalso; omega) | intro _) | (apply WO.pkT; exact rfl; exact rfl) | (apply WO.ldK; exact rfl; exact hK1; exact rfl) | (apply WO.iav; exact rfl; exact rfl; omega) | (apply WO.lda; exact rfl; exact fun _ => rfl; (first | omega | (simp only [List.length_set]; omega) | (simp; omega)); decide; exact rfl; case ia => infer_instance) | (apply WO.hlv; exact rfl; exact rfl; exact rfl) | (apply WO.pl; exact rfl; exact rfl) | (apply WO.pp; exact rfl; exact rfl)
          refine OutE.app (f := inC) (m := [(i : Int)]) (S := [0, ob]) (fun _ => rfl) (fun _ => rfl) (by decide) (hq.grow [_]) (fun x hx => by have := hlt x hx; simp; omega) rfl rfl (Sl.ofAt (f := inC) (esz := 1) (l := [(i : Int)]) (e := 3) (fun _ => rfl) at_new rfl) (by unfold roomLimit; simp only [List.length_singleton]; omega) (fun H w' o' ho' hk hlen => ?_)
          repeat' first | apply SQn | apply W.region | apply WO.nil | apply BQn | (apply WO.add; exact rfl; exact rfl; omega) | (apply WO.pp; exact rfl; exact rfl)
          exact LIn ⟨_, _, _, _, _, _, rfl, by rw [e]; exact ho', hk _ _ (by simp) (at_old hK1), hk _ _ (by simp) (at_old hK2)⟩
        · rw [if_neg (fun h => h2 h.2), List.append_nil] at e
          repeat' first | apply W.seq | apply SQn | apply W.region | apply WO.nil | apply W.block | apply W.skip | apply BQn | (apply W.condT; exact rfl) | (apply W.condF; exact rfl) | (apply WO.gT; exact rfl) | (apply WO.lss; exact rfl; exact rfl; all_goals first | (intro _; exfalso; omega) | intro _) | (apply WO.leq; exact rfl; exact rfl; all_goals first | (intro _; exfalso; omega) | intro _) | (apply WO.gtr; exact rfl; exact rfl; all_goals first | (intro _; exfalso; omega) | intro _) | (apply WO.pkT; exact rfl; exact rfl) | (apply WO.add; exact rfl; exact rfl; omega) | (apply WO.ldK; exact rfl; exact hK1; exact rfl) | (apply WO.iav; exact rfl; exact rfl; omega) | (apply WO.lda; exact rfl; exact fun _ => rfl; (first | omega | (simp only [List.length_set]; omega) | (simp; omega)); decide; exact rfl; case ia => infer_instance) | (apply WO.pl; exact rfl; exact rfl) | (apply WO.pp; exact rfl; exact rfl)
          exact LIn ⟨_, _, _, _, _, _, rfl, by rw [e]; exact hq, hK1, hK2⟩
      · rw [if_neg (fun h => h1 h.1), List.append_nil] at e
        repeat' first | apply W.seq | apply SQn | apply W.region | apply WO.nil | apply W.block | apply W.skip | apply BQn | (apply W.condT; exact rfl) | (apply W.condF; exact rfl) | (apply WO.sT; exact rfl) | (apply WO.lss; exact rfl; exact rfl; all_goals first | (intro _; exfalso; omega) | intro _) | (apply WO.gtr; exact rfl; exact rfl; all_goals first | (intro _; exfalso; omega) | intro _) | (apply WO.pkF; exact rfl; exact rfl) | (apply WO.add; exact rfl; exact rfl; omega) | (apply WO.iav; exact rfl; exact rfl; omega) | (apply WO.lda; exact rfl; exact fun _ => rfl; (first | omega | (simp only [List.length_set]; omega) | (simp; omega)); decide; exact rfl; case ia => infer_instance) | (apply WO.pl; exact rfl; exact rfl) | (apply WO.pp; exact rfl; exact rfl)
        exact LIn ⟨_, _, _, _, _, _, rfl, by rw [e]; exact hq, hK1, hK2⟩
    · subst hs
      have hP : (numsTo own.length).filter (fun i => decide (0 < own.getD i.toNat 0 ∧ own.getD i.toNat 0 ≤ (F : Int))) = finP own F := rfl
      rw [hP] at hq
      have hfin : ∀ S, Sd (keyO own) S → S.Perm (finP own F) → S = finI t F l := fun S h1 h2 => by
        rw [fin_sorted h1 h2, hown]; rfl
      unfold b81_1
      rcases hq with ⟨hq1, rfl⟩ | ⟨c, cp, hc, rfl, hat, hcap⟩
      · have q128 := f128 C.toCS (.fn (.func 129) [] [.ptr ob 0]) K
        repeat' first | apply W.seq | apply SQn | apply W.region | apply WO.nil | apply W.ret | apply W.exit | apply SQe | apply BQe | apply LIe | (apply W.condF; exact rfl) | (apply WO.lss; exact rfl; exact rfl; all_goals first | (intro _; exfalso; omega) | intro _) | (apply WO.ct; exact rfl; exact rfl; first | exact q128) | (apply WO.pl; exact rfl; exact rfl) | (apply WO.pp; exact rfl; exact rfl)
        refine ⟨.inr rfl, rfl, _, rfl, ?_⟩
        rw [← hfin [] Sd.nil (by rw [hq1])]
        exact .nil
      · have hcb : c ≠ ob := fun h => hc (by simp [h])
        have hmem : ∀ y ∈ finP own F, 0 ≤ y ∧ y < own.length := fun y hy => numsTo_mem.1 (List.mem_filter.1 hy).1
        have hlen : (finP own F).length ≤ own.length := Nat.le_trans (List.length_filter_le _ _) (by rw [numsTo_length]; exact Nat.le_refl _)
        obtain ⟨S, wr', hw', ⟨s1, s2⟩, hct⟩ := r128 (M := M) (h := K) (b := c) (n := (finP own F).length) (cap := cp) (g := .fn (.func 129) [] [.ptr ob 0]) (key := keyO own) (ok := fun x => 0 ≤ x ∧ x < own.length) (cf := fun x y => keyO own y - keyO own x) C.toCS (at_lt hat) (by omega)
          (fun x y l' hx hy => q129 C own (by omega) hob ob _ (at_else (fun h => hcb h.symm) hK2) x y hx hy) (fun x y _ _ => by omega) (l := finP own F) rfl (numsTo_lt.filter _) hmem
        rw [put_self (o := .cells (ints (finP own F)) 3) hat] at hct
        have eS := hfin S s1 s2
        have hSl : S.length = (finP own F).length := s2.length_eq
        repeat' first | apply W.seq | apply SQn | apply W.region | apply WO.nil | apply W.ret | apply W.exit | apply SQe | apply BQe | apply LIe | (apply W.condF; exact rfl) | (apply WO.lss; exact rfl; exact rfl; all_goals first | (intro _; exfalso; omega) | intro _) | (apply WO.ct; exact rfl; exact rfl; first | exact hct) | (apply WO.pl; exact rfl; exact rfl) | (apply WO.pp; exact rfl; exact rfl)
        refine ⟨.inr rfl, rfl, _, rfl, ?_⟩
        have hb2 : Heap.at (K.put c (some (.cells (ints S) 3))) c = some (.cells (ints S) 3) := at_put (at_lt hat)
        rw [← eS, ← hSl]
        refine ⟨[c], frz_cells (f := inC) (esz := 1) (e := 3) (fun _ => rfl) (fun _ => rfl) hb2 rfl, rfl, fun b l' e hb hl => ?_⟩
        rw [List.mem_singleton.1 hb] at hl
        have hl2 : Heap.at (K.put c (some (.cells (ints S) 3))) c = some (.cells l' e) := hl
        rw [hb2] at hl2
        cases hl2
        exact novL_arr (fun _ => rfl) _
end Go.Ab.Ch6

/-
  Own work: chapter 6: the finalists by the reference, their names by both.
-/
namespace Go.Ab.Ch6
open Go.Ab.Sort
variable {M : Mach} {cap c1 c2 : Option Nat}
def frontR (t : Int) (l : List Row) : List Row := l.map fun r => ⟨r.who, r.tr.take t.toNat, false⟩
theorem front_len (t : Int) (l : List Row) : (frontR t l).length = l.length := by simp [frontR]
theorem front_tr (t : Int) (l : List Row) : (frontR t l).map Row.tr = cutT t l := by simp [frontR, cutT]
theorem front_take {t : Int} {l : List Row} {i : Nat} (h : i < l.length) : frontR t (l.take (i + 1)) = frontR t (l.take i) ++ [⟨(l[i]!).who, (l[i]!).tr.take t.toNat, false⟩] := by
  rw [take_snoc' h]; simp [frontR]
theorem min_of {t : Int} {tr : List Int} (ht : 0 ≤ t) : ∃ n : Nat, (n : Int) ≤ tr.length ∧ ((n : Int) = t ∧ t ≤ tr.length ∨ (n : Int) = tr.length ∧ (tr.length : Int) ≤ t) ∧ tr.take ((n : Int)).toNat = tr.take t.toNat := by
  rcases Int.le_total t tr.length with h | h
  · exact ⟨t.toNat, by omega, .inl ⟨by omega, h⟩, by congr 1⟩
  · refine ⟨tr.length, Int.le_refl _, .inr ⟨rfl, h⟩, ?_⟩
    rw [List.take_of_length_le (by omega), List.take_of_length_le (by omega)]
theorem idx_succ {own : List Int} {r : Int} {i : Nat} (h : i < own.length) : (numsTo (i + 1)).filter (fun i => decide (own.getD i.toNat 0 = r)) = (numsTo i).filter (fun i => decide (own.getD i.toNat 0 = r)) ++ if own[i]! = r then [(i : Int)] else [] := by
  have e : own.getD ((i : Int)).toNat 0 = own[i]! := by rw [Int.toNat_natCast, List.getD_eq_getElem?_getD, getElem!_pos own i h, List.getElem?_eq_getElem h]; rfl
  rw [numsTo_succ, List.filter_append, List.filter_cons]
  congr 1
  by_cases hc : own[i]! = r
  · rw [if_pos hc, if_pos (by rw [decide_eq_true_eq, e]; exact hc)]; rfl
  · rw [if_neg hc, if_neg (by rw [decide_eq_true_eq, e]; exact hc)]; rfl
set_option maxHeartbeats 2000000 in
theorem w82 (hft : M.FT = FT) (c77 : ∀ (l : List Row) v h, Sl rowC h v l → l.length < 1000000 → (∀ r ∈ l, r.tr.length < 1000000) → M.ext 77 [v] h = some ⟨.vs (ints (ranksL (l.map Row.tr))) l.length none, h, []⟩)
    (names : List Str) (t : Int) (F : Nat) (m : Int) (ht : 0 ≤ t ∧ t < 1000000) (hF : F < 1000000) (l : List Row) (hl : l.length < 900000) (hL : ∀ r ∈ l, fineT r.tr) :
    ∃ v hh, FrN hh v (.vs (ints (finI t F l)) (finI t F l).length none) ∧ Run M 82 [.agg (contC names c1 t F m), .vs (rowsC l) l.length cap] [] ⟨v, hh, []⟩ := by
  refine run_ofE (P := fun v hh => FrN hh v (.vs (ints (finI t F l)) (finI t F l).length none)) (by rw [hft]; exact ft82) (by simp) ?_
  unfold b82
  simp only [List.map_cons, List.map_nil, List.getElem?_cons_zero, List.getElem?_cons_succ, List.getElem?_nil, Option.getD_some, Option.getD_none]
  repeat' first | apply W.seq | apply SQn | apply W.region | apply WO.nil | apply W.block | (apply WO.hpv; exact rfl; exact rfl; exact rfl) | (apply WO.pp; exact rfl; exact rfl)
  refine W.loopI l.length (fun i s => ∃ o a6 lo K wr, s = ⟨⟨[.agg (contC names c1 t F m), .vs (rowsC l) l.length cap, .ptr 0 0, .nilsl, o, .int .i64 i, a6, undefA, undefA, undefA, undefA], lo, K, []⟩, wr⟩ ∧ OutE rowC 3 145 K o (frontR t (l.take i)) [0] ∧ K.at 0 = some (.cells (contC names c1 t F m) 24)) (fun i s hi ⟨o, a6, lo, K, wr, hs, ho, hK⟩ => ?_) (fun s ⟨o, a6, lo, K, wr, hs, ho, hK⟩ => ?_) (Nat.zero_le _) ⟨_, _, _, _, _, rfl, .ofNil, rfl⟩
  · subst hs
    have hK0 := at_lt hK
    have e := front_take (t := t) hi
    rw [show l[i]! = l[((i : Int)).toNat]! from rfl] at e
    obtain ⟨n, hn1, hn2, hn3⟩ := min_of (tr := (l[((i : Int)).toNat]!).tr) ht.1
    unfold b82_0
    repeat' first | (apply WO.ldK; exact rfl; exact hK; exact rfl) | (apply WO.min2 (m := (n : Int)); exact rfl; exact rfl; omega) | (apply WO.svb (f := inC); exact rfl; exact rfl; exact fun _ => rfl; omega) | apply W.seq | apply SQn | apply W.region | apply WO.nil | apply W.block | apply W.skip | (apply W.drawro; exact rfl) | apply W.draw | (apply WD.pure1; exact rfl) | (apply WD.load1; exact rfl; exact rfl; exact rfl) | (apply WD.new1; exact rfl) | (apply WD.app; exact rfl; exact rfl; intro _) | (apply W.condT; exact rfl) | (apply WO.lss; exact rfl; exact rfl; all_goals first | (intro _; exfalso; omega) | intro _) | (apply WO.iav; exact rfl; exact rfl; omega) | (apply WO.lda; exact rfl; exact fun _ => rfl; (first | omega | (simp only [List.length_set]; omega) | (simp; omega)); decide; exact rfl; case ia => infer_instance) | (apply WO.ldf; exact rfl; exact fun _ => rfl; (first | omega | (simp only [List.length_set]; omega) | (simp; omega)); decide; exact rfl; case ia => infer_instance) | (apply WO.hlv; exact rfl; exact rfl; exact rfl) | (apply WO.pl; exact rfl; exact rfl) | (apply WO.pp; exact rfl; exact rfl)
    rw [hn3]
    refine OutE.app (f := rowC) (m := [⟨(l[((i : Int)).toNat]!).who, (l[((i : Int)).toNat]!).tr.take t.toNat, false⟩]) (S := [0]) (fun _ => rfl) (fun _ => rfl) (by decide) (ho.grow [_]) (fun x hx => by rw [List.mem_singleton.1 hx]; simp) rfl rfl (Sl.ofAt (f := rowC) (esz := 3) (l := [⟨(l[((i : Int)).toNat]!).who, (l[((i : Int)).toNat]!).tr.take t.toNat, false⟩]) (e := 145) (fun _ => rfl) at_new rfl) (by rw [front_len, List.length_take]; unfold roomLimit; simp; omega) (fun H w' o' ho' hk hlen => ?_)
    repeat' first | apply SQn | apply W.region | apply WO.nil | apply BQn | apply WD.nil | (apply WD.pure1; exact rfl) | (apply WO.add; exact rfl; exact rfl; omega) | (apply WO.pl; exact rfl; exact rfl) | (apply WO.pp; exact rfl; exact rfl)
    exact LIn ⟨_, _, _, _, _, rfl, by rw [e]; exact ho', hk _ _ (List.mem_singleton.2 rfl) (at_old hK)⟩
  · subst hs
    rw [List.take_length] at ho
    have q77 := c77 (frontR t l) o K (ho.sl (fun _ => rfl)) (by rw [front_len]; omega) (fun r hr => by
      rw [frontR, List.mem_map] at hr
      obtain ⟨r', hr', rfl⟩ := hr
      have := (hL r' hr').1
      simp only [List.length_take]; omega)
    rw [front_tr, front_len] at q77
    obtain ⟨own, hown⟩ : ∃ own, own = ranksL (cutT t l) := ⟨_, rfl⟩
    have hol : own.length = l.length := by rw [hown, ranksL_len, cut_len]
    rw [← hown, ← hol] at q77
    have hfI : finI t F l = finR own F := by rw [hown]; rfl
    rw [hfI]
    unfold b82_0
    repeat' first | apply W.seq | apply SQn | apply W.region | apply WO.nil | apply W.block | apply W.exit | apply SQe | apply BQe | apply LIe | (apply W.condF; exact rfl) | (apply WO.lss; exact rfl; exact rfl; all_goals first | (intro _; exfalso; omega) | intro _) | (apply WO.cll; exact rfl; exact rfl; first | exact q77) | (apply WO.ldK; exact rfl; exact hK; exact rfl) | (apply WO.pl; exact rfl; exact rfl) | (apply WO.pp; exact rfl; exact rfl)
    refine W.loopM (fun r s => r ≤ F ∧ ∃ acc q a10 lo K wr, s = ⟨⟨[.agg (contC names c1 t F m), .vs (rowsC l) l.length cap, .ptr 0 0, .nilsl, o, .int .i64 l.length, a6, .vs (ints own) own.length none, q, .int .i64 r, a10], lo, K, []⟩, wr⟩ ∧ acc ++ finR own r = finR own F ∧ acc.length ≤ (F - r) * l.length ∧ OutE inC 1 3 K q acc []) (fun r s ⟨hr, acc, q, a10, lo, K, wr, hs, hacc, hal, hq⟩ => ?_) (m := F) ⟨Nat.le_refl _, [], _, _, _, _, _, rfl, rfl, by simp, .ofNil⟩
    subst hs
    unfold b82_2
    rcases Nat.eq_zero_or_pos r with rfl | hr0
    · rw [finR, List.append_nil] at hacc
      subst hacc
      repeat' first | apply W.seq | apply SQn | apply W.region | apply WO.nil | apply W.ret | apply W.exit | apply SQe | apply BQe | apply LIe | (apply W.condF; exact rfl) | (apply WO.geq; exact rfl; exact rfl; all_goals first | (intro _; exfalso; omega) | intro _) | (apply WO.pl; exact rfl; exact rfl) | (apply WO.pp; exact rfl; exact rfl)
      exact ⟨.inr rfl, rfl, _, rfl, hq.finN (fun _ => rfl) (fun _ => rfl) (fun _ => rfl)⟩
    · obtain ⟨r, rfl⟩ : ∃ r', r = r' + 1 := ⟨r - 1, by omega⟩
      repeat' first | apply W.seq | apply SQn | apply W.region | apply WO.nil | apply W.block | apply W.skip | (apply W.condT; exact rfl) | (apply WO.geq; exact rfl; exact rfl; all_goals first | (intro _; exfalso; omega) | intro _) | (apply WO.pl; exact rfl; exact rfl) | (apply WO.pp; exact rfl; exact rfl)
      refine W.loopI l.length (fun i s => ∃ q lo K wr, s = ⟨⟨[.agg (contC names c1 t F m), .vs (rowsC l) l.length cap, .ptr 0 0, .nilsl, o, .int .i64 l.length, a6, .vs (ints own) own.length none, q, .int .i64 (r + 1 : Nat), .int .i64 i], lo, K, []⟩, wr⟩ ∧ OutE inC 1 3 K q (acc ++ (numsTo i).filter fun i => decide (own.getD i.toNat 0 = ((r + 1 : Nat) : Int))) []) (fun i s hi ⟨q, lo, K, wr, hs, hq⟩ => ?_) (fun s ⟨q, lo, K, wr, hs, hq⟩ => ?_) (Nat.zero_le _) ⟨_, _, _, _, rfl, by simpa [numsTo] using hq⟩
      · subst hs
        have e := idx_succ (own := own) (r := ((r + 1 : Nat) : Int)) (i := i) (by omega)
        rw [show own[i]! = own[((i : Int)).toNat]! from rfl] at e
        have hfl : ((numsTo i).filter fun i => decide (own.getD i.toNat 0 = ((r + 1 : Nat) : Int))).length ≤ i := Nat.le_trans (List.length_filter_le _ _) (by rw [numsTo_length]; exact Nat.le_refl _)
        have hrm : acc.length + i < 1000000000000 := by
          have : (F - (r + 1)) * l.length ≤ 1000000 * 900000 := Nat.mul_le_mul (by omega) (by omega)
          omega
        have hio : i < own.length := by omega
        unfold b82_1
        by_cases h1 : own[((i : Int)).toNat]! = ((r + 1 : Nat) : Int)
        · rw [if_pos h1] at e
          repeat' first | apply W.seq | apply SQn | apply W.region | apply WO.nil | apply W.block | apply W.skip | (apply W.condT; exact rfl) | (apply WO.lss; exact rfl; exact rfl; all_goals first | (intro _; exfalso; omega) | intro _) | (apply WO.eql; exact rfl; exact rfl; all_goals first | (intro _; exfalso; omega) | intro _) | (apply WO.iav; exact rfl; exact rfl; omega) | (apply WO.lda; exact rfl; exact fun _ => rfl; (first | omega | (simp only [List.length_set]; omega) | (simp; omega)); decide; exact rfl; case ia => infer_instance) | (apply WO.hlv; exact rfl; exact rfl; exact rfl) | (apply WO.pl; exact rfl; exact rfl)
          refine OutE.app (f := inC) (m := [(i : Int)]) (S := []) (fun _ => rfl) (fun _ => rfl) (by decide) (hq.grow [_]) (by simp) rfl rfl (Sl.ofAt (f := inC) (esz := 1) (l := [(i : Int)]) (e := 3) (fun _ => rfl) at_new rfl) (by unfold roomLimit; simp only [List.length_append, List.length_singleton]; omega) (fun H w' o' ho' hk hlen => ?_)
          repeat' first | apply SQn | apply W.region | apply WO.nil | apply BQn | (apply WO.add; exact rfl; exact rfl; omega) | (apply WO.pl; exact rfl; exact rfl) | (apply WO.pp; exact rfl; exact rfl)
          exact LIn ⟨_, _, _, _, rfl, by rw [e, ← List.append_assoc]; exact ho'⟩
        · rw [if_neg h1, List.append_nil] at e
          repeat' first | apply W.seq | apply SQn | apply W.region | apply WO.nil | apply W.block | apply W.skip | apply BQn | (apply W.condT; exact rfl) | (apply W.condF; exact rfl) | (apply WO.lss; exact rfl; exact rfl; all_goals first | (intro _; exfalso; omega) | intro _) | (apply WO.eql; exact rfl; exact rfl; all_goals first | (intro _; exfalso; omega) | intro _) | (apply WO.add; exact rfl; exact rfl; omega) | (apply WO.iav; exact rfl; exact rfl; omega) | (apply WO.lda; exact rfl; exact fun _ => rfl; (first | omega | (simp only [List.length_set]; omega) | (simp; omega)); decide; exact rfl; case ia => infer_instance) | (apply WO.pl; exact rfl; exact rfl) | (apply WO.pp; exact rfl; exact rfl)
          exact LIn ⟨_, _, _, _, rfl, by rw [e]; exact hq⟩
      · subst hs
        have hidx : (numsTo l.length).filter (fun i => decide (own.getD i.toNat 0 = ((r + 1 : Nat) : Int))) = idxs own ((r + 1 : Nat) : Int) := by rw [idxs, hol]
        rw [hidx] at hq
        unfold b82_1
        repeat' first | apply W.seq | apply SQn | apply W.region | apply WO.nil | apply W.exit | apply SQe | apply BQn | apply BQe | apply LIe | (apply W.condF; exact rfl) | (apply WO.lss; exact rfl; exact rfl; all_goals first | (intro _; exfalso; omega) | intro _) | (apply WO.sub; exact rfl; exact rfl; omega) | (apply WO.pl; exact rfl; exact rfl) | (apply WO.pp; exact rfl; exact rfl)
        refine LIn ⟨r, by omega, by omega, acc ++ idxs own ((r + 1 : Nat) : Int), _, _, _, _, _, by rw [show (((r + 1 : Nat) : Int) - 1) = ((r : Nat) : Int) by omega]; rfl, by rw [List.append_assoc]; exact hacc, ?_, hq⟩
        have hfl : (idxs own ((r + 1 : Nat) : Int)).length ≤ l.length := by rw [idxs]; exact Nat.le_trans (List.length_filter_le _ _) (by rw [numsTo_length]; omega)
        rw [List.length_append, show F - r = F - (r + 1) + 1 by omega, Nat.add_mul]
        omega
end Go.Ab.Ch6

/-
  Own work: chapter 6: the finalists' names by both, the law FieldFinalists.
-/
namespace Go.Ab.Ch6
open Go.Ab.Sort
variable {M : Mach} {cap c1 c2 : Option Nat}
theorem finR_perm {own : List Int} {F : Nat} : (finR own F).Perm (finP own F) :=
  (List.perm_ext_iff_of_nodup finR_nodup (numsTo_nodup.filter _)).2 fun i => by
    show _ ↔ i ∈ (numsTo own.length).filter fun i => decide (0 < own.getD i.toNat 0 ∧ own.getD i.toNat 0 ≤ (F : Int))
    rw [finR_key, List.mem_filter, decide_eq_true_eq]
    rfl
theorem finI_in {t : Int} {F : Nat} {l : List Row} : ∀ i ∈ finI t F l, 0 ≤ i ∧ i < l.length := fun i hi => by
  have h := numsTo_mem.1 (finR_key.1 hi).1
  rw [ranksL_len, cut_len] at h
  exact h
theorem finI_len {t : Int} {F : Nat} {l : List Row} : (finI t F l).length ≤ l.length := by
  rw [finI, finR_perm.length_eq]
  refine Nat.le_trans (List.length_filter_le _ _) ?_
  rw [numsTo_length, ranksL_len, cut_len]
  exact Nat.le_refl _
def whoL (l : List Row) (I : List Int) : List Str := I.map fun i => (l.getD i.toNat default).who
theorem whoL_take {l : List Row} {I : List Int} {i : Nat} (h : i < I.length) (hI : ∀ x ∈ I, 0 ≤ x ∧ x < l.length) : whoL l (I.take (i + 1)) = whoL l (I.take i) ++ [(l[(I[((i : Int)).toNat]!).toNat]!).who] := by
  have hx := hI _ (List.getElem_mem h)
  rw [take_snoc' h, whoL, List.map_append, Int.toNat_natCast]
  show _ = whoL l (I.take i) ++ _
  congr 1
  rw [List.map_singleton]
  congr 2
  rw [getElem!_pos I i h, List.getD_eq_getElem?_getD, getElem!_pos l _ (by omega), List.getElem?_eq_getElem (by omega)]; rfl
theorem whoL_len {l : List Row} {I : List Int} : (whoL l I).length = I.length := by simp [whoL]
theorem w33 (hft : M.FT = FT) (names : List Str) (t : Int) (F : Nat) (m : Int) (l : List Row) (hl : l.length < 900000)
    (c82 : ∀ h, M.ext 82 [.agg (contC names c1 t F m), .vs (rowsC l) l.length cap] h = some ⟨.vs (ints (finI t F l)) (finI t F l).length none, h, []⟩) :
    ∃ v hh, FrN hh v (.vs (strs (finN t F l)) (finN t F l).length none) ∧ Run M 33 [.agg (contC names c1 t F m), .vs (rowsC l) l.length cap] [] ⟨v, hh, []⟩ := by
  have hin := finI_in (t := t) (F := F) (l := l)
  have hlen := finI_len (t := t) (F := F) (l := l)
  have hfn : finN t F l = whoL l (finI t F l) := rfl
  rw [hfn]
  generalize finI t F l = I at *
  refine run_ofE (P := fun v hh => FrN hh v (.vs (strs (whoL l I)) (whoL l I).length none)) (by rw [hft]; exact ft33) (by simp) ?_
  unfold b33
  simp only [List.map_cons, List.map_nil, List.getElem?_cons_zero, List.getElem?_cons_succ, List.getElem?_nil, Option.getD_some, Option.getD_none]
  repeat' first | apply W.seq | apply SQn | apply W.region | apply WO.nil | apply W.block | (apply WO.cll; exact rfl; exact rfl; first | exact c82 _) | (apply WO.ldK; exact rfl; exact rfl; exact rfl) | (apply WO.hpv; exact rfl; exact rfl; exact rfl) | (apply WO.pl; exact rfl; exact rfl) | (apply WO.pp; exact rfl; exact rfl)
  refine W.loopI I.length (fun i s => ∃ o lo K wr, s = ⟨⟨[.agg (contC names c1 t F m), .vs (rowsC l) l.length cap, .ptr 0 0, .nilsl, o, .vs (ints I) I.length none, .int .i64 i], lo, K, []⟩, wr⟩ ∧ OutE stC 1 9 K o (whoL l (I.take i)) []) (fun i s hi ⟨o, lo, K, wr, hs, ho⟩ => ?_) (fun s ⟨o, lo, K, wr, hs, ho⟩ => ?_) (Nat.zero_le _) ⟨_, _, _, _, rfl, .ofNil⟩
  · subst hs
    have e := whoL_take hi hin
    have hx := hin I[((i : Int)).toNat]! (by rw [Int.toNat_natCast, getElem!_pos I i hi]; exact List.getElem_mem hi)
    unfold b33_0
    repeat' first | apply W.seq | apply SQn | apply W.region | apply WO.nil | apply W.block | apply W.skip | (apply W.condT; exact rfl) | (apply WO.lss; exact rfl; exact rfl; all_goals first | (intro _; exfalso; omega) | intro _) | (apply WO.iav; exact rfl; exact rfl; omega) | (apply WO.lda; exact rfl; exact fun _ => rfl; (first | omega | (simp only [List.length_set]; omega) | (simp; omega)); decide; exact rfl; case ia => infer_instance) | (apply WO.hlv; exact rfl; exact rfl; exact rfl) | (apply WO.pl; exact rfl; exact rfl)
    refine OutE.app (f := stC) (m := [(l[(I[((i : Int)).toNat]!).toNat]!).who]) (S := []) (fun _ => rfl) (fun _ => rfl) (by decide) (ho.grow [_]) (by simp) rfl rfl (Sl.ofAt (f := stC) (esz := 1) (l := [(l[(I[((i : Int)).toNat]!).toNat]!).who]) (e := 9) (fun _ => rfl) at_new rfl) (by rw [whoL_len, List.length_take]; unfold roomLimit; simp; omega) (fun H w' o' ho' hk hlen => ?_)
    repeat' first | apply SQn | apply W.region | apply WO.nil | apply BQn | (apply WO.add; exact rfl; exact rfl; omega) | (apply WO.pl; exact rfl; exact rfl) | (apply WO.pp; exact rfl; exact rfl)
    exact LIn ⟨_, _, _, _, rfl, by rw [e]; exact ho'⟩
  · subst hs
    rw [List.take_length] at ho
    unfold b33_0
    repeat' first | apply W.seq | apply SQn | apply W.region | apply WO.nil | apply W.ret | apply W.exit | apply SQe | apply BQe | apply LIe | (apply W.condF; exact rfl) | (apply WO.lss; exact rfl; exact rfl; all_goals first | (intro _; exfalso; omega) | intro _) | (apply WO.pl; exact rfl; exact rfl) | (apply WO.pp; exact rfl; exact rfl)
    exact ⟨.inr rfl, rfl, _, rfl, ho.finN (fun _ => rfl) (fun _ => rfl) (fun _ => rfl)⟩
def finNE (names : List Str) (t : Int) (f : Int) (m : Int) (l : List Row) : List Str := if finE names t f m l = 0 then finN t f.toNat l else []
def finT (names : List Str) (t : Int) (f : Int) (m : Int) (l : List Row) : AV := .tup [.vs (strs (finNE names t f m l)) (finNE names t f m l).length none, .int .i64 (finE names t f m l)]
theorem finT_err {names : List Str} {t f m : Int} {l : List Row} {E : Int} {hp : Heap} (h0 : E ≠ 0) (h : finE names t f m l = E) : FrN (if (tupA [.nilsl, .int .i64 E]).top ≤ 0 then [] else hp) (tupA [.nilsl, .int .i64 E]) (finT names t f m l) := by
  have := OutE.finT (f := stC) (h := OutE.ofNil (f := stC) (esz := 1) (e := 9) (S := []) (hp := hp)) (u := .int .i64 E) rfl rfl (fun _ => rfl) (fun _ => rfl) (fun _ => rfl)
  rw [finT, finNE, h, if_neg h0]
  exact this
theorem finT_ok {names : List Str} {t f m : Int} {l : List Row} {o : AV} {hp : Heap} (h : finE names t f m l = 0) (ho : OutE stC 1 9 hp o (finN t f.toNat l) []) : FrN (if (tupA [o, .int .i64 0]).top ≤ 0 then [] else hp) (tupA [o, .int .i64 0]) (finT names t f m l) := by
  have := OutE.finT (f := stC) (h := ho) (u := .int .i64 0) rfl rfl (fun _ => rfl) (fun _ => rfl) (fun _ => rfl)
  rw [finT, finNE, h, if_pos rfl]
  exact this
structure CFn (M : Mach) : Prop extends CF M where
  c11 : ∀ (l : List Str) cap t f m h, l.length < 1000000 → (∀ s ∈ l, s.length < 1000000) → M.ext 11 [.agg [.vs (strs l) l.length cap, .int .i64 t, .int .i64 f, .int .i64 m]] h = some ⟨.int .i64 (contestE l t f m), h, []⟩
  c27 : ∀ (l : List Row) cap h, (∀ r ∈ l, r.who.length < 1000000 ∧ r.tr.length < 1000000) → M.ext 27 [.vs (rowsC l) l.length cap] h = some ⟨.int .i64 (rowsE l), h, []⟩
theorem finE_pre {names : List Str} {t f m : Int} {l : List Row} {e : Int} (he : e = firstNZ [contestE names t f m, rowsE l, if l.length ≠ names.length then 2 else 0]) :
    (e ≠ 0 → finE names t f m l = e) ∧ (e = 0 → finE names t f m l = ownE names l m ∧ l.length = names.length ∧ contestE names t f m = 0 ∧ rowsE l = 0) := by
  rw [first3] at he
  unfold finE
  by_cases h1 : contestE names t f m ≠ 0
  · rw [if_pos h1] at he ⊢
    exact ⟨fun _ => he.symm, fun h => absurd (he.symm.trans h) h1⟩
  · rw [if_neg h1] at he ⊢
    by_cases h2 : rowsE l ≠ 0
    · rw [if_pos h2] at he ⊢
      exact ⟨fun _ => he.symm, fun h => absurd (he.symm.trans h) h2⟩
    · rw [if_neg h2] at he ⊢
      by_cases h3 : l.length ≠ names.length
      · rw [if_pos h3] at he
        exact ⟨fun _ => by rw [ownE, if_pos h3]; exact he.symm, fun h => by rw [he] at h; cases h⟩
      · rw [if_neg h3] at he
        exact ⟨fun h => absurd he h, fun _ => ⟨rfl, Decidable.not_not.1 h3, Decidable.not_not.1 h1, Decidable.not_not.1 h2⟩⟩
theorem contest_parts {names : List Str} {t f m : Int} (h : contestE names t f m = 0) : names.length ≤ 32 ∧ 1 ≤ t ∧ t ≤ 6 ∧ 0 ≤ m ∧ (m ≠ 0 → 1 ≤ f ∧ f ≤ 32) := by
  unfold contestE at h
  split at h
  · rename_i h1; exact absurd h h1
  · rename_i h1
    have h1 := Decidable.not_not.1 h1
    have hn : names.length ≤ 32 := by
      unfold athE at h1
      split at h1
      · cases h1
      · split at h1
        · cases h1
        · omega
    split at h
    · cases h
    · split at h
      · exact ⟨hn, by omega, by omega, by omega, fun h => by omega⟩
      · split at h
        · cases h
        · exact ⟨hn, by omega, by omega, by omega, fun _ => by omega⟩
theorem own_who {names : List Str} {l : List Row} {m : Int} {i : Nat} (hn : l.length = names.length) (hi : i < l.length) (h : (l[i]!).who ≠ names[i]!) : ownE names l m = 10 := by
  rw [ownE, if_neg (by omega), if_pos]
  intro hh
  apply h
  rw [← hh, names_get hi]
theorem own_all {names : List Str} {l : List Row} {m : Int} (hn : l.length = names.length) (h : ∀ k, k < l.length → (l[k]!).who = names[k]!) : ownE names l m = if m = 0 then 7 else 0 := by
  have : namesR l = names := by
    apply List.ext_getElem (by rw [len_names]; exact hn)
    intro k h1 h2
    rw [len_names] at h1
    have := h k h1
    rw [← names_get h1, getElem!_pos _ k (by rw [len_names]; exact h1), getElem!_pos _ k h2] at this
    exact this
  rw [ownE, if_neg (by omega), if_neg (by simp [this])]
set_option maxHeartbeats 2000000 in
theorem w31 (C : CFn M) (names : List Str) (t : Int) (f : Int) (m : Int) (l : List Row) (hl : l.length < 900000) (hL : ∀ r ∈ l, r.who.length < 1000000 ∧ r.tr.length < 1000000) (hnl : names.length < 1000000) (hN : ∀ s ∈ names, s.length < 1000000)
    (c81 : finE names t f m l = 0 → ∀ h, M.ext 81 [.agg (contC names c1 t f m), .vs (rowsC l) l.length cap] h = some ⟨.vs (ints (finI t f.toNat l)) (finI t f.toNat l).length none, h, []⟩) :
    ∃ v hh, FrN hh v (finT names t f m l) ∧ Run M 31 [.agg (contC names c1 t f m), .vs (rowsC l) l.length cap] [] ⟨v, hh, []⟩ := by
  have q11 := fun h => C.c11 names c1 t f m h hnl hN
  have q27 := fun h => C.c27 l cap h hL
  have q64 := C.c64
  have q61 := fun a b c => C.q3 [some (.cells (contC names c1 t f m) 32)] a b c
  obtain ⟨e, he⟩ : ∃ e, e = firstNZ [contestE names t f m, rowsE l, if l.length ≠ names.length then 2 else 0] := ⟨_, rfl⟩
  obtain ⟨p1, p2⟩ := finE_pre he
  refine run_ofE (P := fun v hh => FrN hh v (finT names t f m l)) (by rw [C.ft]; exact ft31) (by simp) ?_
  unfold b31
  simp only [List.map_cons, List.map_nil, List.getElem?_cons_zero, List.getElem?_cons_succ, List.getElem?_nil, Option.getD_some, Option.getD_none]
  by_cases h3 : (l.length : Int) = names.length
  rotate_left
  · rw [if_pos (by omega)] at he
    repeat' first | apply W.seq | apply SQn | apply W.region | apply WO.nil | apply W.block | apply W.ret | apply W.skip | apply SQr | apply W.draw | apply WD.nil | (apply WD.pure1; exact rfl) | (apply WD.load1; exact rfl; exact rfl; exact rfl) | (apply WD.new1; exact rfl) | (apply W.condT; exact rfl) | (apply W.condF; exact rfl) | (apply WO.neq; exact rfl; exact rfl; all_goals first | (intro _; exfalso; omega) | intro _) | (apply WD.cl0; exact rfl; exact rfl; exact rfl; first | exact q11 _ | exact q27 _ | exact q64 _ _ _ | exact q61 _ _ _) | (apply WO.hlv; exact rfl; exact rfl; exact rfl) | (apply WO.hpv; exact rfl; exact rfl; exact rfl) | (apply WO.pl; exact rfl; exact rfl) | (apply WO.pp; exact rfl; exact rfl)
    · rename_i h0
      exact ⟨.inr rfl, rfl, _, rfl, finT_err h0 ((p1 (by rw [he]; exact h0)).trans he)⟩
    · rename_i h0
      exact absurd (p2 (he.trans h0)).2.1 (by omega)
  · rw [if_neg (by omega)] at he
    repeat' first | apply W.seq | apply SQn | apply W.region | apply WO.nil | apply W.block | apply W.ret | apply W.skip | apply SQr | apply W.draw | apply WD.nil | (apply WD.pure1; exact rfl) | (apply WD.load1; exact rfl; exact rfl; exact rfl) | (apply WD.new1; exact rfl) | (apply W.condT; exact rfl) | (apply W.condF; exact rfl) | (apply WO.neq; exact rfl; exact rfl; all_goals first | (intro _; exfalso; omega) | intro _) | (apply WD.cl0; exact rfl; exact rfl; exact rfl; first | exact q11 _ | exact q27 _ | exact q64 _ _ _ | exact q61 _ _ _) | (apply WO.hlv; exact rfl; exact rfl; exact rfl) | (apply WO.hpv; exact rfl; exact rfl; exact rfl) | (apply WO.pl; exact rfl; exact rfl) | (apply WO.pp; exact rfl; exact rfl)
    · rename_i h0
      exact ⟨.inr rfl, rfl, _, rfl, finT_err h0 ((p1 (by rw [he]; exact h0)).trans he)⟩
    · rename_i h0
      obtain ⟨e1, e2, e3, e4⟩ := p2 (he.trans h0)
      refine W.loopI l.length (fun i s => (∀ k, k < i → (l[k]!).who = names[k]!) ∧ ∃ a5 a6 a7 lo K wr, s = ⟨⟨[.agg (contC names c1 t f m), .vs (rowsC l) l.length cap, .ptr 0 0, .nilsl, .int .i64 0, a5, a6, a7, undefA, undefA, .vs (rowsC l) l.length cap, .int .i64 l.length, .int .i64 i, undefA, undefA, undefA], lo, K, []⟩, wr⟩ ∧ K.at 0 = some (.cells (contC names c1 t f m) 32)) (fun i s hi ⟨hw, a5, a6, a7, lo, K, wr, hs, hK⟩ => ?_) (fun s ⟨hw, a5, a6, a7, lo, K, wr, hs, hK⟩ => ?_) (Nat.zero_le _) ⟨fun k hk => absurd hk (Nat.not_lt_zero _), _, _, _, _, _, _, rfl, rfl⟩
      · subst hs
        have hi2 : i < names.length := by omega
        unfold b31_0
        repeat' first | (apply WO.stK; exact rfl; exact rfl; exact ⟨rfl, by first | exact Nat.le_refl _ | decide | (simp [overwrite]), rfl⟩; exact rfl) | (apply WO.ldK; exact rfl; (first | exact at_new | assumption | exact at_old at_new | exact at_old (at_old at_new) | exact at_old (at_old (at_old at_new)) | exact at_put (by simp) | ((repeat apply at_old); assumption)); exact rfl) | apply W.seq | apply SQn | apply W.region | apply WO.nil | apply W.block | apply W.ret | apply W.skip | apply SQr | apply BQn | apply BQr | apply LIr | (apply W.drawro; exact rfl) | (apply W.condT; exact rfl) | (apply W.condF; exact rfl) | (apply WO.lss; exact rfl; exact rfl; all_goals first | (intro _; exfalso; omega) | intro _) | (apply WO.add; exact rfl; exact rfl; omega) | (apply WO.iav; exact rfl; exact rfl; omega) | (apply WO.lda; exact rfl; exact fun _ => rfl; (first | omega | (simp only [List.length_set]; omega) | (simp; omega)); decide; exact rfl; case ia => infer_instance) | (apply WO.sneq; exact rfl; exact rfl; all_goals first | (intro h; exact absurd h (by decide)) | (intro h; exact absurd rfl h) | (intro h; contradiction) | intro _) | (apply WO.hpv; exact rfl; exact rfl; exact rfl) | (apply WO.pl; exact rfl; exact rfl) | (apply WO.pp; exact rfl; exact rfl)
        · rename_i hne
          exact ⟨.inr rfl, rfl, _, rfl, finT_err (by decide) (e1.trans (own_who e2 hi hne))⟩
        · rename_i heq
          exact LIn ⟨fun k hk => by
            rcases Nat.lt_or_ge k i with h | h
            · exact hw k h
            · obtain rfl : k = i := by omega
              exact heq, _, _, _, _, _, _, rfl, by first | exact at_mid hK | exact at_old hK⟩
      · subst hs
        have e5 := own_all (m := m) e2 hw
        rw [e5] at e1
        unfold b31_0
        by_cases hm : m = 0
        · rw [if_pos hm] at e1
          repeat' first | apply W.seq | apply SQn | apply W.region | apply WO.nil | apply W.ret | apply W.exit | apply SQr | apply SQe | apply BQe | apply LIe | (apply W.condT; exact rfl) | (apply W.condF; exact rfl) | (apply WO.lss; exact rfl; exact rfl; all_goals first | (intro _; exfalso; omega) | intro _) | (apply WO.eql; exact rfl; exact rfl; all_goals first | (intro _; exfalso; omega) | intro _) | (apply WO.ldK; exact rfl; exact hK; exact rfl) | (apply WO.pl; exact rfl; exact rfl) | (apply WO.pp; exact rfl; exact rfl)
          exact ⟨.inr rfl, rfl, _, rfl, finT_err (by decide) e1⟩
        · rw [if_neg hm] at e1
          have q81 := c81 e1
          have hin := finI_in (t := t) (F := f.toNat) (l := l)
          have hlen := finI_len (t := t) (F := f.toNat) (l := l)
          have hfn : finN t f.toNat l = whoL l (finI t f.toNat l) := rfl
          have fin := fun o hp => finT_ok (names := names) (t := t) (f := f) (m := m) (l := l) (o := o) (hp := hp) e1
          rw [hfn] at fin
          generalize finI t f.toNat l = I at *
          repeat' first | apply W.seq | apply SQn | apply W.region | apply WO.nil | apply W.block | apply W.exit | apply W.skip | apply SQe | apply BQe | apply LIe | (apply W.condF; exact rfl) | (apply WO.lss; exact rfl; exact rfl; all_goals first | (intro _; exfalso; omega) | intro _) | (apply WO.eql; exact rfl; exact rfl; all_goals first | (intro _; exfalso; omega) | intro _) | (apply WO.clp; exact rfl; exact rfl; first | exact q81 _) | (apply WO.ldK; exact rfl; exact hK; exact rfl) | (apply WO.pl; exact rfl; exact rfl) | (apply WO.pp; exact rfl; exact rfl)
          refine W.loopI I.length (fun i s => ∃ o a9 lo K wr, s = ⟨⟨[.agg (contC names c1 t f m), .vs (rowsC l) l.length cap, .ptr 0 0, .nilsl, .int .i64 0, a5, a6, a7, o, a9, .vs (rowsC l) l.length cap, .int .i64 l.length, .int .i64 l.length, .vs (ints I) I.length none, .int .i64 I.length, .int .i64 i], lo, K, []⟩, wr⟩ ∧ OutE stC 1 9 K o (whoL l (I.take i)) []) (fun i s hi ⟨o, a9, lo, K, wr, hs, ho⟩ => ?_) (fun s ⟨o, a9, lo, K, wr, hs, ho⟩ => ?_) (Nat.zero_le _) ⟨_, _, _, _, _, rfl, .ofNil⟩
          · subst hs
            have e := whoL_take hi hin
            have hx := hin I[((i : Int)).toNat]! (by rw [Int.toNat_natCast, getElem!_pos I i hi]; exact List.getElem_mem hi)
            unfold b31_1
            repeat' first | apply W.seq | apply SQn | apply W.region | apply WO.nil | apply W.block | apply W.skip | (apply W.condT; exact rfl) | (apply WO.lss; exact rfl; exact rfl; all_goals first | (intro _; exfalso; omega) | intro _) | (apply WO.iav; exact rfl; exact rfl; omega) | (apply WO.lda; exact rfl; exact fun _ => rfl; (first | omega | (simp only [List.length_set]; omega) | (simp; omega)); decide; exact rfl; case ia => infer_instance) | (apply WO.hlv; exact rfl; exact rfl; exact rfl) | (apply WO.pl; exact rfl; exact rfl) | (apply WO.pp; exact rfl; exact rfl)
            refine OutE.app (f := stC) (m := [(l[(I[((i : Int)).toNat]!).toNat]!).who]) (S := []) (fun _ => rfl) (fun _ => rfl) (by decide) (ho.grow [_]) (by simp) rfl rfl (Sl.ofAt (f := stC) (esz := 1) (l := [(l[(I[((i : Int)).toNat]!).toNat]!).who]) (e := 9) (fun _ => rfl) at_new rfl) (by rw [whoL_len, List.length_take]; unfold roomLimit; simp; omega) (fun H w' o' ho' hk hlen => ?_)
            repeat' first | apply SQn | apply W.region | apply WO.nil | apply BQn | (apply WO.add; exact rfl; exact rfl; omega) | (apply WO.pp; exact rfl; exact rfl)
            exact LIn ⟨_, _, _, _, _, rfl, by rw [e]; exact ho'⟩
          · subst hs
            rw [List.take_length] at ho
            unfold b31_1
            repeat' first | apply W.seq | apply SQn | apply W.region | apply WO.nil | apply W.ret | apply W.exit | apply SQe | apply BQe | apply LIe | (apply W.condF; exact rfl) | (apply WO.lss; exact rfl; exact rfl; all_goals first | (intro _; exfalso; omega) | intro _) | (apply WO.pl; exact rfl; exact rfl) | (apply WO.pp; exact rfl; exact rfl)
            exact ⟨.inr rfl, rfl, _, rfl, fin _ _ ho⟩
end Go.Ab.Ch6

/-
  Own work: chapter 6: the law FieldFinalists.
-/
namespace Go.Ab.Ch6
variable {M : Mach}
def okIn (names : List Str) (l : List Row) : Prop := (names.length < 1000 ∧ ∀ s ∈ names, s.length < 1000) ∧ l.length < 1000 ∧ ∀ r ∈ l, r.who.length < 1000 ∧ r.tr.length < 1000
theorem okIn_of {names : List Str} {l : List Row} (h1 : shortN names = true) (h2 : shortR l = true) : okIn names l := by
  unfold shortN at h1
  unfold shortR at h2
  rw [Bool.and_eq_true, decide_eq_true_eq, List.all_eq_true] at h1 h2
  refine ⟨⟨by omega, fun s hs => ?_⟩, by omega, fun r hr => ?_⟩
  · have := of_decide_eq_true (h1.2 s hs); omega
  · have := h2.2 r hr
    rw [Bool.and_eq_true, decide_eq_true_eq, decide_eq_true_eq] at this
    omega
structure C6 (M : Mach) : Prop where
  ft : M.FT = FT
  c10 : ∀ h, M.ext 10 [] h = some ⟨.bool true, h, []⟩
  c9 : ∀ (l : List Str) cap h, M.ext 9 [.vs (strs l) l.length cap] h = some ⟨.bool (shortN l), h, []⟩
  c22 : ∀ (l : List Row) h, M.ext 22 [.vs (rowsC l) l.length none] h = some ⟨.bool (shortR l), h, []⟩
  c24 : ∀ (l : List Row) h, l.length < 1000 → (∀ r ∈ l, r.tr.length < 1000) → M.ext 24 [.vs (rowsC l) l.length none] h = some ⟨.vs (rowsC l) l.length none, h, []⟩
  c31 : ∀ names t f m l h, okIn names l → M.ext 31 [.agg (contC names none t f m), .vs (rowsC l) l.length none] h = some ⟨finT names t f m l, h, []⟩
  c12 : ∀ (l : List Str) cap t f m h, l.length < 1000000 → (∀ s ∈ l, s.length < 1000000) → M.ext 12 [.agg [.vs (strs l) l.length cap, .int .i64 t, .int .i64 f, .int .i64 m]] h = some ⟨.int .i64 (contestE l t f m), h, []⟩
  c26 : ∀ (l : List Row) h, (∀ r ∈ l, r.who.length < 1000 ∧ r.tr.length < 1000) → M.ext 26 [.vs (rowsC l) l.length none] h = some ⟨.int .i64 (rowsE l), h, []⟩
  c20 : ∀ v l h, intsAt h v = some l → l.length < 4611686018427387904 → M.ext 20 [v] h = some ⟨.int .i64 (firstNZ l), h, []⟩
  c32 : ∀ names t f m l h, l.length < 1000 → M.ext 32 [.agg (contC names none t f m), .vs (rowsC l) l.length none] h = some ⟨.int .i64 (ownE names l m), h, []⟩
  c33 : ∀ names t f m l h, okIn names l → finE names t f m l = 0 → M.ext 33 [.agg (contC names none t f m), .vs (rowsC l) l.length none] h = some ⟨.vs (strs (finN t f.toNat l)) (finN t f.toNat l).length none, h, []⟩
  c34 : ∀ (a b : List Str) v h, Sl stC h v b → a.length < 1000000 → M.ext 34 [.vs (strs a) a.length none, v] h = some ⟨.bool (decide (a = b)), h, []⟩
theorem C6.q20 (C : C6 M) (H : Heap) (a b : Int) : M.ext 20 [.sl H.length 0 2 1 (some 2)] (H ++ [some (.cells [.int .i64 a, .int .i64 b] 3)]) = some ⟨.int .i64 (firstNZ [a, b]), H ++ [some (.cells [.int .i64 a, .int .i64 b] 3)], []⟩ := by
  have e : Heap.at (H ++ [some (.cells [.int .i64 a, .int .i64 b] 3)]) H.length = some (.cells (ints [a, b]) 3) := at_new
  exact C.c20 _ [a, b] _ (ints_at e rfl) (by simp)
theorem first2 (a b : Int) : firstNZ [a, b] = if a ≠ 0 then a else b := by
  simp only [firstNZ]
  by_cases h : b = 0
  · simp [h]
  · simp [h]
theorem finE_two {names : List Str} {t f m : Int} {l : List Row} {E : Int} (he : E = firstNZ [contestE names t f m, rowsE l]) : (E ≠ 0 → finE names t f m l = E) ∧ (E = 0 → finE names t f m l = ownE names l m) := by
  rw [first2] at he
  unfold finE
  by_cases h1 : contestE names t f m ≠ 0
  · rw [if_pos h1] at he ⊢
    exact ⟨fun _ => he.symm, fun h => absurd (he.symm.trans h) h1⟩
  · rw [if_neg h1] at he ⊢
    subst he
    exact ⟨fun h => by rw [if_pos h], fun h => by rw [if_neg (fun hh => hh h)]⟩
theorem finN_len {t : Int} {F : Nat} {l : List Row} (hl : l.length < 1000) : (finN t F l).length < 1000000 := by
  have := finI_len (t := t) (F := F) (l := l)
  rw [finN, List.length_map]
  omega
set_option maxHeartbeats 2000000 in
theorem w6 (C : C6 M) (names : List Str) (t f m : Int) (l : List Row) : Run M 6 [.agg [.vs (strs names) names.length none, .int .i64 t, .int .i64 f, .int .i64 m], .vs (rowsC l) l.length none] [] ⟨.bool true, [], []⟩ := by
  have hEnd : ∀ s : StW, s.s.dfs = [] → s.s.pe[3]? = some (.bool true) → ((fun (e : Ex) (s : StW) => (e = .normal ∨ e = .ret) ∧ s.s.dfs = [] ∧ ∃ vs, resultsA s.s [.var (.p 3)] = some vs ∧ tupA vs = .bool true ∧ (if (AV.bool true).top ≤ 0 then [] else s.s.hp) = []) Ex.ret s) := fun s h1 h2 =>
    ⟨.inr rfl, h1, [.bool true], by simp only [resultsA, St.opd, h2], rfl, rfl⟩
  have q10 := C.c10
  have q9 := fun h => C.c9 names none h
  have q22 := C.c22 l
  refine run_of_W (by rw [C.ft]; exact ft6) (by simp) ?_
  unfold b6
  simp only [List.map_cons, List.map_nil, List.getElem?_cons_zero, List.getElem?_cons_succ, List.getElem?_nil, Option.getD_some, Option.getD_none]
  cases h1 : shortN names with
  | false =>
    rw [h1] at q9
    repeat' first | apply W.seq | apply SQn | apply W.region | apply WO.nil | apply W.ret | apply SQr | (apply W.condT; exact rfl) | (apply WO.sF; exact rfl) | (apply WO.pkT; exact rfl; exact rfl) | (apply WO.cll; exact rfl; exact rfl; first | exact q10 _ | exact q9 _) | (apply WO.hlv; exact rfl; exact rfl; exact rfl) | (apply WO.hpv; exact rfl; exact rfl; exact rfl) | (apply WO.pl; exact rfl; exact rfl) | (apply WO.pp; exact rfl; exact rfl)
    all_goals exact hEnd _ rfl rfl
  | true =>
    rw [h1] at q9
    cases h2 : shortR l with
    | false =>
      rw [h2] at q22
      repeat' first | apply W.seq | apply SQn | apply W.region | apply WO.nil | apply W.ret | apply SQr | (apply W.condT; exact rfl) | (apply WO.gF; exact rfl) | (apply WO.pkF; exact rfl; exact rfl) | (apply WO.cll; exact rfl; exact rfl; first | exact q10 _ | exact q9 _ | exact q22 _) | (apply WO.hlv; exact rfl; exact rfl; exact rfl) | (apply WO.hpv; exact rfl; exact rfl; exact rfl) | (apply WO.pl; exact rfl; exact rfl) | (apply WO.pp; exact rfl; exact rfl)
      all_goals exact hEnd _ rfl rfl
    | true =>
      rw [h2] at q22
      have ok := okIn_of h1 h2
      have q24 := fun h => C.c24 l h ok.2.1 (fun r hr => (ok.2.2 r hr).2)
      have q31 := fun h => C.c31 names t f m l h ok
      have q12 := fun h => C.c12 names none t f m h (by have := ok.1.1; omega) (fun s hs => by have := ok.1.2 s hs; omega)
      have q26 := fun h => C.c26 l h ok.2.2
      have q20 := fun a b => C.q20 [some (.cells (contC names none t f m) 24)] a b
      have q32 := fun h => C.c32 names t f m l h ok.2.1
      obtain ⟨p1, p2⟩ := finE_two (names := names) (t := t) (f := f) (m := m) (l := l) rfl
      by_cases hE : firstNZ [contestE names t f m, rowsE l] = 0
      · have p2 := p2 hE
        by_cases hO : ownE names l m = 0
        · have e0 := p2.trans hO
          have q33 := fun h => C.c33 names t f m l h ok e0
          have q34 := fun h => C.c34 (finN t f.toNat l) (finN t f.toNat l) (.vs (strs (finN t f.toNat l)) (finN t f.toNat l).length none) h .ofVs (finN_len ok.2.1)
          simp only [decide_true] at q34
          rw [finT, finNE, e0, if_pos rfl] at q31
          repeat' first | apply W.seq | apply SQn | apply W.region | apply WO.nil | apply W.ret | apply W.skip | apply W.draw | apply WD.nil | (apply WD.pure1; exact rfl) | (apply WD.load1; exact rfl; exact rfl; exact rfl) | (apply W.condT; exact rfl) | (apply W.condF; exact rfl) | (apply WO.gT; exact rfl) | (apply WO.gF; exact rfl) | (apply WO.eql; exact rfl; exact rfl; all_goals first | (intro _; exfalso; omega) | intro _) | (apply WO.pkT; exact rfl; exact rfl) | (apply WO.pkF; exact rfl; exact rfl) | (apply WO.cll; exact rfl; exact rfl; first | exact q10 _ | exact q9 _ | exact q22 _ | exact q24 _ | exact q31 _ | exact q12 _ | exact q26 _ | exact q20 _ _ | exact q32 _ | exact q33 _ | exact q34 _) | (apply WD.cl0; exact rfl; exact rfl; exact rfl; first | exact q10 _ | exact q9 _ | exact q22 _ | exact q24 _ | exact q31 _ | exact q12 _ | exact q26 _ | exact q20 _ _ | exact q32 _ | exact q33 _ | exact q34 _) | (apply WO.hlv; exact rfl; exact rfl; exact rfl) | (apply WO.hpv; exact rfl; exact rfl; exact rfl) | (apply WO.pl; exact rfl; exact rfl) | (apply WO.pp; exact rfl; exact rfl)
          all_goals first | contradiction | exact hEnd _ rfl rfl
        · have q34 := fun h => C.c34 [] [] .nilsl h .ofNil (by decide)
          have e0 := p2
          rw [finT, finNE, p2, if_neg hO] at q31
          repeat' first | apply W.seq | apply SQn | apply W.region | apply WO.nil | apply W.ret | apply W.skip | apply W.draw | apply WD.nil | (apply WD.pure1; exact rfl) | (apply WD.load1; exact rfl; exact rfl; exact rfl) | (apply W.condT; exact rfl) | (apply W.condF; exact rfl) | (apply WO.gT; exact rfl) | (apply WO.gF; exact rfl) | (apply WO.eql; exact rfl; exact rfl; all_goals first | (intro _; exfalso; omega) | intro _) | (apply WO.pkT; exact rfl; exact rfl) | (apply WO.pkF; exact rfl; exact rfl) | (apply WO.cll; exact rfl; exact rfl; first | exact q10 _ | exact q9 _ | exact q22 _ | exact q24 _ | exact q31 _ | exact q12 _ | exact q26 _ | exact q20 _ _ | exact q32 _ | exact q34 _) | (apply WD.cl0; exact rfl; exact rfl; exact rfl; first | exact q10 _ | exact q9 _ | exact q22 _ | exact q24 _ | exact q31 _ | exact q12 _ | exact q26 _ | exact q20 _ _ | exact q32 _ | exact q34 _) | (apply WO.hlv; exact rfl; exact rfl; exact rfl) | (apply WO.hpv; exact rfl; exact rfl; exact rfl) | (apply WO.pl; exact rfl; exact rfl) | (apply WO.pp; exact rfl; exact rfl)
          all_goals first | contradiction | exact hEnd _ rfl rfl
      · have q34 := fun h => C.c34 [] [] .nilsl h .ofNil (by decide)
        have e0 := p1 hE
        rw [finT, finNE, e0, if_neg hE] at q31
        repeat' first | apply W.seq | apply SQn | apply W.region | apply WO.nil | apply W.ret | apply W.skip | apply W.draw | apply WD.nil | (apply WD.pure1; exact rfl) | (apply WD.load1; exact rfl; exact rfl; exact rfl) | (apply W.condF; exact rfl) | (apply WO.gT; exact rfl) | (apply WO.gF; exact rfl) | (apply WO.eql; exact rfl; exact rfl; all_goals first | (intro _; exfalso; omega) | intro _) | (apply WO.pkT; exact rfl; exact rfl) | (apply WO.pkF; exact rfl; exact rfl) | (apply WO.cll; exact rfl; exact rfl; first | exact q10 _ | exact q9 _ | exact q22 _ | exact q24 _ | exact q31 _ | exact q12 _ | exact q26 _ | exact q20 _ _ | exact q34 _) | (apply WD.cl0; exact rfl; exact rfl; exact rfl; first | exact q10 _ | exact q9 _ | exact q22 _ | exact q24 _ | exact q31 _ | exact q12 _ | exact q26 _ | exact q20 _ _ | exact q34 _) | (apply WO.hlv; exact rfl; exact rfl; exact rfl) | (apply WO.hpv; exact rfl; exact rfl; exact rfl) | (apply WO.pl; exact rfl; exact rfl) | (apply WO.pp; exact rfl; exact rfl)
        all_goals first | contradiction | exact hEnd _ rfl rfl
end Go.Ab.Ch6

/-
  Own work: chapter 6: small functions of the program's series: copies, comparisons.
-/
namespace Go.Ab.Ch6
variable {M : Mach} {cap : Option Nat}
theorem w223n (hft : M.FT = FT) : Run M 223 [.vs [] 0 cap] [] ⟨.nilsl, [], []⟩ := by
  refine run_of_W (by rw [hft]; exact ft223) (by simp) ?_
  unfold b223
  simp only [List.map_cons, List.map_nil, List.getElem?_cons_zero, List.getElem?_cons_succ, List.getElem?_nil, Option.getD_some, Option.getD_none]
  repeat' first | apply W.seq | apply SQn | apply W.region | apply WO.nil | apply W.ret | (apply WO.hlv; exact rfl; exact rfl; exact rfl) | (apply WO.pl; exact rfl; exact rfl) | (apply WO.pp; exact rfl; exact rfl)
  exact ⟨.inr rfl, rfl, _, rfl, rfl, rfl⟩
theorem w223 (hft : M.FT = FT) (l : List Int) (h0 : l ≠ []) (hl : l.length < 1000000) : Run M 223 [.vs (ints l) l.length cap] [] ⟨.sl 0 0 l.length 1 none, [some (.cells (ints l) 3)], []⟩ := by
  have hp : 0 < l.length := List.length_pos_iff.2 h0
  have hs : ∀ h, sliceCells h (.vs (ints l) l.length cap) = some (ints l, l.length) := fun _ => rfl
  have hroom : l.length * 8 ≤ roomLimit := by unfold roomLimit; omega
  refine run_of_W (by rw [hft]; exact ft223) (by simp) ?_
  unfold b223
  simp only [List.map_cons, List.map_nil, List.getElem?_cons_zero, List.getElem?_cons_succ, List.getElem?_nil, Option.getD_some, Option.getD_none]
  repeat' first | apply W.seq | apply SQn | apply W.region | apply WO.nil | apply W.ret | (apply WO.apn; exact rfl; exact rfl; exact hs _; exact ⟨(by rw [ints_len]; omega), by decide, one_ints l⟩; exact ⟨hp, hroom⟩) | (apply WO.pl; exact rfl; exact rfl) | (apply WO.pp; exact rfl; exact rfl)
  exact ⟨.inr rfl, rfl, _, rfl, rfl, rfl⟩
theorem w224 (hft : M.FT = FT) (x : Int) : Run M 224 [.int .i64 x] [] ⟨.bool (decide (x < 0)), [], []⟩ := by
  refine run_of_W (by rw [hft]; exact ft224) (by simp) ?_
  unfold b224
  simp only [List.map_cons, List.map_nil, List.getElem?_cons_zero, List.getElem?_cons_succ, List.getElem?_nil, Option.getD_some, Option.getD_none]
  by_cases h : x < 0
  · rw [decide_eq_true h]
    repeat' first | apply W.seq | apply SQn | apply W.region | apply WO.nil | apply W.ret | (apply WO.lss; exact rfl; exact rfl; all_goals first | (intro _; exfalso; omega) | intro _) | (apply WO.pl; exact rfl; exact rfl) | (apply WO.pp; exact rfl; exact rfl)
    all_goals first | (exfalso; omega) | exact ⟨.inr rfl, rfl, _, rfl, rfl, rfl⟩
  · rw [decide_eq_false h]
    repeat' first | apply W.seq | apply SQn | apply W.region | apply WO.nil | apply W.ret | (apply WO.lss; exact rfl; exact rfl; all_goals first | (intro _; exfalso; omega) | intro _) | (apply WO.pl; exact rfl; exact rfl) | (apply WO.pp; exact rfl; exact rfl)
    all_goals first | (exfalso; omega) | exact ⟨.inr rfl, rfl, _, rfl, rfl, rfl⟩
theorem w226 (hft : M.FT = FT) (x y : Int) (hx : 0 ≤ x ∧ x < 1000000) (hy : 0 ≤ y ∧ y < 1000000) : Run M 226 [.int .i64 x, .int .i64 y] [] ⟨.int .i64 (y - x), [], []⟩ := by
  refine run_of_W (by rw [hft]; exact ft226) (by simp) ?_
  unfold b226
  simp only [List.map_cons, List.map_nil, List.getElem?_cons_zero, List.getElem?_cons_succ, List.getElem?_nil, Option.getD_some, Option.getD_none]
  repeat' first | apply W.seq | apply SQn | apply W.region | apply WO.nil | apply W.ret | (apply WO.sub; exact rfl; exact rfl; omega) | (apply WO.pl; exact rfl; exact rfl) | (apply WO.pp; exact rfl; exact rfl)
  exact ⟨.inr rfl, rfl, _, rfl, rfl, rfl⟩
end Go.Ab.Ch6

/-
  Own work: the contracts of FieldFinalists as a table.
-/
namespace Go.Ab.Ch6
open Go.Proofs Go.Ab.Sort
noncomputable abbrev sC (T : List (Nat × Spec)) (g : Nat) : Spec := specC Tryz.prog FT T g
noncomputable abbrev sF (T : List (Nat × Spec)) (g : Nat) : Spec := specF Tryz.prog FT T g
theorem sC_ok {T : List (Nat × Spec)} (hT : ExtOK Tryz.prog gl (extS T)) {g : Nat} : SpecOK Tryz.prog gl g (sC T g) := specC_ok seat hT
theorem sF_ok {T : List (Nat × Spec)} (hT : ExtOK Tryz.prog gl (extS T)) {g : Nat} : SpecOK Tryz.prog gl g (sF T g) := specF_ok seat hT
variable {h : Heap}
theorem self_ints (l : List Int) : selfC h (ints l) := selfC_arr (fun _ => atoms_self rfl) l
theorem self_strs (l : List Str) : selfC h (strs l) := selfC_arr (fun _ => atoms_self rfl) l
theorem self_row (r : Row) : selfC h (rowC r) := .cons (.atom rfl) (.cons (.ofVs (self_ints r.tr)) (.cons (.atom rfl) .nil))
theorem self_ls (l : List Int) : selfC h (lsC l) := .cons (.ofVs (self_ints l)) .nil
theorem self_cont {names : List Str} {c : Option Nat} {t f m : Int} : FrC h (.agg (contC names c t f m)) (.agg (contC names c t f m)) :=
  .agg rfl (FrCL.cons (FrC.ofVs (self_strs names)) (atoms_self rfl)).2
theorem fc_ints {l : List Int} {n : Nat} {c : Option Nat} : FrC h (.vs (ints l) n c) (.vs (ints l) n c) := .ofVs (self_ints l)
theorem fc_strs {l : List Str} {n : Nat} {c : Option Nat} : FrC h (.vs (strs l) n c) (.vs (strs l) n c) := .ofVs (self_strs l)
theorem fc_rows {l : List Row} {n : Nat} {c : Option Nat} : FrC h (.vs (rowsC l) n c) (.vs (rowsC l) n c) := .ofVs (selfC_arr self_row l)
theorem can_ints (l : List Int) (n : Nat) : canA (.vs (ints l) n none) = .vs (ints l) n none := can_arr (fun _ => rfl) l n
theorem can_strs (l : List Str) (n : Nat) : canA (.vs (strs l) n none) = .vs (strs l) n none := can_arr (fun _ => rfl) l n
theorem can_row (r : Row) : canL (rowC r) = rowC r := by
  simp only [rowC, canL, can_ints]
  rfl
theorem vtop_ints (l : List Int) {n : Nat} {c : Option Nat} : (AV.vs (ints l) n c).top = 0 := topL_arr (fun _ => rfl) l
theorem vtop_strs (l : List Str) {n : Nat} {c : Option Nat} : (AV.vs (strs l) n c).top = 0 := topL_arr (fun _ => rfl) l
theorem vtop_rows (l : List Row) {n : Nat} {c : Option Nat} : (AV.vs (rowsC l) n c).top = 0 := topL_arr top_row l
theorem frN_out {e : TypeId} {hh : Heap} {v : AV} {l : List Str} (ho : OutL stC 1 e hh v l []) : FrN hh v (.vs (strs l) l.length none) := by
  rcases ho with ⟨rfl, rfl⟩ | ⟨c, _, _, rfl, h4⟩
  · exact .nil
  · exact ⟨[c], frz_cells (f := stC) (fun _ => rfl) (fun _ => rfl) h4 rfl, rfl, fun b l' e' hb hl => by
      rw [List.mem_singleton.1 hb, h4] at hl
      cases hl
      exact novL_arr (fun _ => rfl) l⟩
def RCp (xs : List AV) (h : Heap) (r : HR) : Prop := ∃ (l : List Int) (cap : Option Nat), xs = [.vs (ints l) l.length cap] ∧ l.length < 1000000 ∧ r = if l = [] then ⟨.nilsl, h, []⟩ else ⟨.sl h.length 0 l.length 1 none, h ++ [some (.cells (ints l) 3)], []⟩
theorem specCp_eq {l : List Int} {cap : Option Nat} {h : Heap} (hl : l.length < 1000000) : specR RCp [.vs (ints l) l.length cap] h = some (if l = [] then ⟨.nilsl, h, []⟩ else ⟨.sl h.length 0 l.length 1 none, h ++ [some (.cells (ints l) 3)], []⟩) :=
  specR_eq ⟨l, cap, rfl, hl, rfl⟩ fun r ⟨m, cap', e, _, hr⟩ => by
    simp only [List.cons.injEq, AV.vs.injEq, and_true] at e
    rw [hr, arr_inj (f := inC) (esz := 1) (fun _ => rfl) (fun a b h => by cases h; rfl) e.2.1 e.1]
theorem copy223 : SpecOK Tryz.prog gl 223 (specR RCp) := specR_ok fun xs h r ⟨l, cap, e1, hl, e2⟩ => by
  subst e1; subst e2
  have hv : FrL h [] [.vs (ints l) l.length cap] [.vs (ints l) l.length cap] := .same (by simp only [topL, vtop_ints]; rfl)
  by_cases h0 : l = []
  · subst h0
    rw [if_pos rfl]
    exact ent_run0 seat tab_nil (w223n (M := mach Tryz.prog FT []) (cap := cap) mach_ft) hv rfl (.inl rfl)
  · rw [if_neg h0]
    exact ent_run1 seat (k := 0) tab_nil (w223 (M := mach Tryz.prog FT []) (cap := cap) mach_ft l h0 hl) hv (.sl (i := 0) rfl) rfl (top_ints l) (.inr (novL_arr (fun _ => rfl) l)) (.inl rfl)
noncomputable def TA : List (Nat × Spec) := [(64, specWhen), (63, specRange), (61, specFirst), (67, specName), (126, specContains), (11, specContest), (12, specContest), (73, specNameE), (20, specFirst), (9, specShort), (10, specAwake), (76, sC TCF 76),
  (22, sC [] 22), (72, sC [] 72), (75, sC [] 75), (127, sC [] 127), (192, sC [] 192), (223, specR RCp), (224, sC [] 224), (226, sC [] 226), (78, sC [] 78), (32, sC [] 32), (34, sC [] 34), (24, sF [] 24)]
theorem TA_ok : ExtOK Tryz.prog gl (extS TA) :=
  tab_cons when64 (tab_cons range63 (tab_cons first61 (tab_cons name67 (tab_cons contains126 (tab_cons contest11 (tab_cons contest12 (tab_cons name73 (tab_cons first20 (tab_cons short9 (tab_cons awake10 (tab_cons (sC_ok TCF_ok)
    (tab_cons (sC_ok tab_nil) (tab_cons (sC_ok tab_nil) (tab_cons (sC_ok tab_nil) (tab_cons (sC_ok tab_nil) (tab_cons (sC_ok tab_nil) (tab_cons copy223 (tab_cons (sC_ok tab_nil) (tab_cons (sC_ok tab_nil) (tab_cons (sC_ok tab_nil) (tab_cons (sC_ok tab_nil) (tab_cons (sC_ok tab_nil) (tab_cons (sF_ok tab_nil) tab_nil)))))))))))))))))))))))
noncomputable abbrev m0 : Mach := mach Tryz.prog FT []
section
variable {cap c1 c2 : Option Nat}
theorem k76 {l : List Str} {v : AV} {i : Nat} (hs : Sl stC h v l) (hl : l.length < 1000000) (hL : ∀ s ∈ l, s.length < 1000000) (hi : i < l.length) : sC TCF 76 [v, .int .i64 i] h = some ⟨.int .i64 (nameE l i), h, []⟩ := by
  obtain ⟨c, hf⟩ := FrC.ofSl (fun _ => atoms_self rfl) hs
  exact specC_eq (.cons hf (atoms_self rfl)) (.of (w76 cf (fun s h hs => by
    rw [mach_ext]
    show specName [.str s] h = _
    simp only [specName, if_pos hs]) (fun l x cap h hl => by
    rw [mach_ext]
    show specContains [.vs (strs l) l.length cap, .str x] h = _
    simp only [specContains, strsAt_vs]
    rw [if_pos (by omega)]) l hl hL i hi))
theorem k22 (l : List Row) : sC [] 22 [.vs (rowsC l) l.length cap] h = some ⟨.bool (shortR l), h, []⟩ := specC_eq (.cons fc_rows .nil) (.of (w22 (M := m0) mach_ft l))
theorem k72 {l : List Row} (hl : l.length < 1000000) : sC [] 72 [.vs (rowsC l) l.length cap] h = some ⟨.vs (strs (namesR l)) (namesR l).length none, h, []⟩ :=
  specC_eq (.cons fc_rows .nil) (.new (by obtain ⟨v, hh, h1, h2⟩ := w72 (M := m0) (cap := cap) mach_ft l hl; exact ⟨v, hh, frN_out h1, h2⟩) (vtop_strs _) (can_strs _ _))
theorem k75 (x : Int) : sC [] 75 [.int .i64 x] h = some ⟨.bool (decide (x < -2 ∨ 999999 < x)), h, []⟩ := specC_eq (atoms_self rfl) (.of (w75 (M := m0) mach_ft x))
theorem k127 {a b : List Int} (hl : a.length < 1000000) : sC [] 127 [.vs (ints a) a.length c1, .vs (ints b) b.length c2] h = some ⟨.bool (lexGt a b), h, []⟩ := specC_eq (.cons fc_ints (.cons fc_ints .nil)) (.of (w127 (M := m0) mach_ft a b hl))
theorem k192 (x : Int) : sC [] 192 [.int .i64 x] h = some ⟨.bool false, h, []⟩ := specC_eq (atoms_self rfl) (.of (w192 (M := m0) mach_ft x))
theorem k224 (x : Int) : sC [] 224 [.int .i64 x] h = some ⟨.bool (decide (x < 0)), h, []⟩ := specC_eq (atoms_self rfl) (.of (w224 (M := m0) mach_ft x))
theorem k226 {x y : Int} (hx : 0 ≤ x ∧ x < 1000000) (hy : 0 ≤ y ∧ y < 1000000) : sC [] 226 [.int .i64 x, .int .i64 y] h = some ⟨.int .i64 (y - x), h, []⟩ := specC_eq (atoms_self rfl) (.of (w226 (M := m0) mach_ft x y hx hy))
theorem k78 {r : Row} (hl : r.tr.length < 1000000) : sC [] 78 [.agg (rowC r)] h = some ⟨.vs (ints (serL r.tr)) (serL r.tr).length none, h, []⟩ :=
  specC_eq (.cons (.agg rfl (self_row r).2) .nil) (.new (w78 (M := m0) mach_ft r hl) (vtop_ints _) (can_ints _ _))
theorem k32 {names : List Str} {t f m : Int} {l : List Row} (hl : l.length < 1000000) : sC [] 32 [.agg (contC names c1 t f m), .vs (rowsC l) l.length cap] h = some ⟨.int .i64 (ownE names l m), h, []⟩ :=
  specC_eq (.cons self_cont (.cons fc_rows .nil)) (.of (w32 (M := m0) mach_ft names t f m l hl))
theorem k34 {a b : List Str} {v : AV} (hs : Sl stC h v b) (hl : a.length < 1000000) : sC [] 34 [.vs (strs a) a.length none, v] h = some ⟨.bool (decide (a = b)), h, []⟩ := by
  obtain ⟨c, hf⟩ := FrC.ofSl (fun _ => atoms_self rfl) hs
  exact specC_eq (.cons fc_strs (.cons hf .nil)) (.of (w34 (M := m0) mach_ft a b hl))
theorem k24 {l : List Row} (hl : l.length < 1000000) (hL : ∀ r ∈ l, r.tr.length < 1000000) : sF [] 24 [.vs (rowsC l) l.length cap] h = some ⟨.vs (rowsC l) l.length none, h, []⟩ := by
  obtain ⟨v, hh, ⟨B, h1⟩, h2⟩ := w24 (M := m0) (cap := cap) mach_ft l hl hL
  exact specF_eq ⟨v, hh, B, h2, h1, by simp only [topL, vtop_rows]; rfl, vtop_rows _, can_arr can_row l _⟩
noncomputable def TB : List (Nat × Spec) := (125, sC TA 125) :: (142, sC TA 142) :: (77, sC TA 77) :: (26, sC TA 26) :: TA
theorem TB_ok : ExtOK Tryz.prog gl (extS TB) := tab_cons (sC_ok TA_ok) (tab_cons (sC_ok TA_ok) (tab_cons (sC_ok TA_ok) (tab_cons (sC_ok TA_ok) TA_ok)))
theorem k125 {g : FuncId} {p : Int → Bool} (cg : ∀ x h, (mach Tryz.prog FT TA).ext g [.int .i64 x] h = some ⟨.bool (p x), h, []⟩) {l : List Int} {v : AV} (hs : Sl inC h v l) (hl : l.length < 4611686018427387904) : sC TA 125 [v, .fn (.func g) [] []] h = some ⟨.int .i64 (idxP p l 0), h, []⟩ := by
  obtain ⟨c, hf⟩ := FrC.ofSl (fun _ => atoms_self rfl) hs
  exact specC_eq (.cons hf (atoms_self rfl)) (.of (w125 mach_ft cg l hl))
theorem k142 (x y : Int) : sC TA 142 [.int .i64 x, .int .i64 y] h = some ⟨.int .i64 (cmpI x y), h, []⟩ :=
  specC_eq (atoms_self rfl) (.of (w142 mach_ft (fun x h => by rw [mach_ext]; exact k192 x) x y))
theorem k77 {l : List Row} {v : AV} (hs : Sl rowC h v l) (hl : l.length < 1000000) (hL : ∀ r ∈ l, r.tr.length < 1000000) : sC TA 77 [v] h = some ⟨.vs (ints (ranksL (l.map Row.tr))) l.length none, h, []⟩ := by
  obtain ⟨c, hf⟩ := FrC.ofSl self_row hs
  exact specC_eq (.cons hf .nil) (.new (w77 mach_ft (fun r h hl => by rw [mach_ext]; exact k78 hl) (fun a b c1 c2 h hl => by rw [mach_ext]; exact k127 hl) l hl hL) (vtop_ints _) (can_ints _ _))
theorem k26 {l : List Row} (hL : ∀ r ∈ l, r.who.length < 1000000 ∧ r.tr.length < 1000000) : sC TA 26 [.vs (rowsC l) l.length cap] h = some ⟨.int .i64 (rowsE l), h, []⟩ :=
  specC_eq (.cons fc_rows .nil) (.of (w26 mach_ft (fun l cap h hl => by rw [mach_ext]; exact k72 hl) (fun l cap i h hl hL hi => by rw [mach_ext]; exact specNameE_vs hl hL hi) l hL))
theorem calls_sr : CSr (mach Tryz.prog FT TB) where
  ft := mach_ft
  n222 ars h := by rw [mach_ext]; rfl
  n225 ars h := by rw [mach_ext]; rfl
  n227 ars h := by rw [mach_ext]; rfl
  n250 ars h := by rw [mach_ext]; rfl
  n251 ars h := by rw [mach_ext]; rfl
  n282 ars h := by rw [mach_ext]; rfl
  c224 x h := by rw [mach_ext]; exact k224 x
  c226 x y h h1 h2 h3 h4 := by rw [mach_ext]; exact k226 ⟨h1, h2⟩ ⟨h3, h4⟩
  c125 l v h hs hl := by rw [mach_ext]; exact k125 (fun x h => by rw [mach_ext]; exact k224 x) hs (by omega)
  c223n cap h := by
    rw [mach_ext]
    exact specCp_eq (l := []) (by decide)
  c223 l cap h h0 hl := by
    rw [mach_ext]
    have := specCp_eq (cap := cap) (h := h) hl
    rw [if_neg h0] at this
    exact this
noncomputable def TC : List (Nat × Spec) := (74, sC TB 74) :: (139, sC TB 139) :: (185, sC TB 185) :: (82, sC TB 82) :: TB
theorem TC_ok : ExtOK Tryz.prog gl (extS TC) := tab_cons (sC_ok TB_ok) (tab_cons (sC_ok TB_ok) (tab_cons (sC_ok TB_ok) (tab_cons (sC_ok TB_ok) TB_ok)))
theorem k74 {l : List Int} (hl : l.length < 1000000) : sC TB 74 [.vs (ints l) l.length cap, .fn (.func 75) [] []] h = some ⟨.bool (farT l), h, []⟩ :=
  specC_eq (.cons fc_ints (atoms_self rfl)) (.of (w74 mach_ft (fun l cap h hl => by rw [mach_ext]; exact k125 (fun x h => by rw [mach_ext]; exact k75 x) .ofVs hl) l (by omega)))
theorem k139 {a b : List Int} (hl : a.length < 1000000) : sC TB 139 [.vs (ints a) a.length c1, .vs (ints b) b.length c2] h = some ⟨.int .i64 (cmpL a b), h, []⟩ :=
  specC_eq (.cons fc_ints (.cons fc_ints .nil)) (.of (w139 mach_ft (fun x y h => by rw [mach_ext]; exact k142 x y) a b hl))
theorem k185 {l : List Int} (hl : fineT l) : sC TB 185 [.vs (ints l) l.length cap] h = some ⟨.vs (ints (serL l)) (serL l).length none, h, []⟩ :=
  specC_eq (.cons fc_ints .nil) (.new (w185 calls_sr l hl.1 hl.2) (vtop_ints _) (can_ints _ _))
theorem k82 {names : List Str} {t : Int} {F : Nat} {m : Int} {l : List Row} (ht : 0 ≤ t ∧ t < 1000000) (hF : F < 1000000) (hl : l.length < 900000) (hL : ∀ r ∈ l, fineT r.tr) : sC TB 82 [.agg (contC names c1 t F m), .vs (rowsC l) l.length cap] h = some ⟨.vs (ints (finI t F l)) (finI t F l).length none, h, []⟩ :=
  specC_eq (.cons self_cont (.cons fc_rows .nil)) (.new (w82 mach_ft (fun l v h hs hl hL => by rw [mach_ext]; exact k77 hs hl hL) names t F m ht hF l hl hL) (vtop_ints _) (can_ints _ _))
noncomputable def TD : List (Nat × Spec) := (64, specWhen) :: (63, specRange) :: (61, specFirst) :: (27, sC ((64, specWhen) :: (63, specRange) :: (61, specFirst) :: TC) 27) :: (123, sC TC 123) :: (33, sC TC 33) :: TC
theorem TD_ok : ExtOK Tryz.prog gl (extS TD) := tab_cons when64 (tab_cons range63 (tab_cons first61 (tab_cons (sC_ok (tab_cons when64 (tab_cons range63 (tab_cons first61 TC_ok)))) (tab_cons (sC_ok TC_ok) (tab_cons (sC_ok TC_ok) TC_ok)))))
theorem k27 {l : List Row} (hL : ∀ r ∈ l, r.who.length < 1000000 ∧ r.tr.length < 1000000) : sC ((64, specWhen) :: (63, specRange) :: (61, specFirst) :: TC) 27 [.vs (rowsC l) l.length cap] h = some ⟨.int .i64 (rowsE l), h, []⟩ :=
  specC_eq (.cons fc_rows .nil) (.of (w27 cf (fun l cap h hl => by rw [mach_ext]; exact k74 hl) (fun l v i h hs hl hL hi => by rw [mach_ext]; exact k76 hs hl hL hi) l hL))
theorem k123 {ls : List (List Int)} {v : AV} (hs : Sl lsC h v ls) (hl : ls.length < 1000000) (hL : ∀ x ∈ ls, fineT x) : sC TC 123 [v] h = some ⟨.vs (ints (ranksL ls)) (ranksL ls).length none, h, []⟩ := by
  obtain ⟨c, hf⟩ := FrC.ofSl self_ls hs
  rw [ranksL_len]
  exact specC_eq (.cons hf .nil) (.new (w123 mach_ft (fun l h hl => by rw [mach_ext]; exact k185 hl) (fun a b c1 c2 h hl => by rw [mach_ext]; exact k139 hl) ls hl hL) (vtop_ints _) (can_ints _ _))
theorem fine_of {names : List Str} {t f m : Int} {l : List Row} (h : finE names t f m l = 0) : ((f.toNat : Nat) : Int) = f ∧ (0 ≤ t ∧ t < 1000000) ∧ f.toNat < 1000000 ∧ ∀ r ∈ l, fineT r.tr := by
  obtain ⟨p1, p2⟩ := finE_two (names := names) (t := t) (f := f) (m := m) (l := l) rfl
  by_cases hE : firstNZ [contestE names t f m, rowsE l] = 0
  · have p2 := p2 hE
    rw [h] at p2
    rw [first2] at hE
    have hc : contestE names t f m = 0 := by
      by_cases hc : contestE names t f m = 0
      · exact hc
      · rw [if_pos hc] at hE; exact hE
    rw [if_neg (by simp [hc])] at hE
    obtain ⟨a1, a2, a3, a4, a5⟩ := contest_parts hc
    have hm : m ≠ 0 := by
      intro hm
      unfold ownE at p2
      split at p2
      · cases p2
      · split at p2
        · cases p2
        · first | cases p2 | (rw [if_pos hm] at p2; cases p2)
    obtain ⟨a6, a7⟩ := a5 hm
    refine ⟨by omega, by omega, by omega, fun r hr => ?_⟩
    obtain ⟨b1, b2⟩ := (rowsE_all hE).2 r hr
    refine ⟨by omega, fun y hy => ?_⟩
    have := List.any_eq_false.1 b2 y hy
    simp at this
    omega
  · exact absurd ((p1 hE).symm.trans h) hE
theorem k33 {names : List Str} {t f m : Int} {l : List Row} (hl : l.length < 900000) (h0 : finE names t f m l = 0) : sC TC 33 [.agg (contC names c1 t f m), .vs (rowsC l) l.length cap] h = some ⟨.vs (strs (finN t f.toNat l)) (finN t f.toNat l).length none, h, []⟩ := by
  obtain ⟨e, ht, hF, hL⟩ := fine_of h0
  rw [← e]
  simp only [Int.toNat_natCast]
  exact specC_eq (.cons self_cont (.cons fc_rows .nil)) (.new (w33 mach_ft names t f.toNat m l hl (fun h => by rw [mach_ext]; exact k82 ht hF hl hL)) (vtop_strs _) (can_strs _ _))
theorem calls_fin : CFin (mach Tryz.prog FT TD) where
  ft := mach_ft
  n128 ars h := by rw [mach_ext]; rfl
  n187 ars h := by rw [mach_ext]; rfl
  n227 ars h := by rw [mach_ext]; rfl
  n228 ars h := by rw [mach_ext]; rfl
  n252 ars h := by rw [mach_ext]; rfl
  n283 ars h := by rw [mach_ext]; rfl
  n129 ars h := by rw [mach_ext]; rfl
  c123 ls v h hs hl hL := by rw [mach_ext]; exact k123 hs hl hL
noncomputable def TE : List (Nat × Spec) := (64, specWhen) :: (63, specRange) :: (61, specFirst) :: (81, sC TD 81) :: TD
theorem TE_ok : ExtOK Tryz.prog gl (extS TE) := tab_cons when64 (tab_cons range63 (tab_cons first61 (tab_cons (sC_ok TD_ok) TD_ok)))
theorem k81 {names : List Str} {t f m : Int} {l : List Row} (hl : l.length < 900000) (h0 : finE names t f m l = 0) : sC TD 81 [.agg (contC names c1 t f m), .vs (rowsC l) l.length cap] h = some ⟨.vs (ints (finI t f.toNat l)) (finI t f.toNat l).length none, h, []⟩ := by
  obtain ⟨e, ht, hF, hL⟩ := fine_of h0
  have := specC_eq (P := Tryz.prog) (FT := FT) (h := h) (.cons self_cont (.cons fc_rows .nil)) (.new (w81 (c1 := c1) (cap := cap) calls_fin names t f.toNat m ht l hl hL) (vtop_ints _) (can_ints _ _))
  rwa [e] at this
noncomputable def TF : List (Nat × Spec) := (31, sC TE 31) :: TE
theorem TF_ok : ExtOK Tryz.prog gl (extS TF) := tab_cons (sC_ok TE_ok) TE_ok
theorem finT_top {names : List Str} {t f m : Int} {l : List Row} : (finT names t f m l).top = 0 := by
  show topL [_, _] = 0
  simp only [topL, vtop_strs]
  rfl
theorem finT_can {names : List Str} {t f m : Int} {l : List Row} : canA (finT names t f m l) = finT names t f m l := by
  simp only [finT, canA, canL]
  exact congrArg (fun x => AV.tup [x, _]) (can_strs _ _)
theorem k31 {names : List Str} {t f m : Int} {l : List Row} (ok : okIn names l) : sC TE 31 [.agg (contC names c1 t f m), .vs (rowsC l) l.length cap] h = some ⟨finT names t f m l, h, []⟩ :=
  specC_eq (.cons self_cont (.cons fc_rows .nil)) (.new (w31 { (cf : CF (mach Tryz.prog FT TE)) with
    c11 := fun l cap t f m h hl hL => by rw [mach_ext]; exact contest_vs hl hL
    c27 := fun l cap h hL => by rw [mach_ext]; exact k27 hL } names t f m l (by have := ok.2.1; omega) (fun r hr => by have := ok.2.2 r hr; omega) (by have := ok.1.1; omega) (fun s hs => by have := ok.1.2 s hs; omega)
    (fun h0 h => by rw [mach_ext]; exact k81 (by have := ok.2.1; omega) h0)) finT_top finT_can)
theorem calls6 : C6 (mach Tryz.prog FT TF) where
  ft := mach_ft
  c10 h := by rw [mach_ext]; rfl
  c9 l cap h := by
    rw [mach_ext]
    show specShort [.vs (strs l) l.length cap] h = _
    simp only [specShort, strsAt_vs]
  c22 l h := by rw [mach_ext]; exact k22 l
  c24 l h hl hL := by rw [mach_ext]; exact k24 (by omega) (fun r hr => by have := hL r hr; omega)
  c31 names t f m l h ok := by rw [mach_ext]; exact k31 ok
  c12 l cap t f m h hl hL := by rw [mach_ext]; exact contest_vs hl hL
  c26 l h hL := by rw [mach_ext]; exact k26 (fun r hr => by have := hL r hr; omega)
  c20 v l h hl hn := by
    rw [mach_ext]
    show specFirst [v] h = _
    simp only [specFirst, hl, if_pos hn]
  c32 names t f m l h hl := by rw [mach_ext]; exact k32 (by omega)
  c33 names t f m l h ok h0 := by rw [mach_ext]; exact k33 (by have := ok.2.1; omega) h0
  c34 a b v h hs hl := by rw [mach_ext]; exact k34 hs hl
end
end Go.Ab.Ch6

/-
  Own work: arguments that are contests, as the abstract machine sees them.
-/
namespace Go.Ab.Ch6
open Go.Proofs
open Go.ChangeShapes Go.WideShapes Go.RowKit
variable {H : Type} {enc : TypeId × Value → H} {P : Program} {W : World} {base : Nat} {sp : Nat → Bool} {t e : TypeId} {v : Value} {d : DataW H} {ps : List MemPlace}
end Go.Ab.Ch6
