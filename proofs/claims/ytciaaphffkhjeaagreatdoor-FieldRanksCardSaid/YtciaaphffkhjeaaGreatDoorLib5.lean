/-
  Own work: slices.SortStableFunc over arr (pf PL): the merge in place, by induction.
-/
import Derived.Test.YtciaaphffkhjeaaGreatDoorLib4
import Derived.Test.YtciaaphffkhjeaaGreatDoorLib3
import Derived.Test.YtciaaphffkhjeaaGreatDoorLib2
import Derived.Deep.Slices
import Derived.Deep.Strs
import Derived.Lib.SmallJoins
import Derived.ChangeSame
namespace Go.Ab.Ch6.Srp
open Go.Ab.Sort
variable {PL : List Place} {M : Mach} {h : Heap} {b n : Nat} {cap : Option Nat} {g : AV}
variable {key : Int → Int} {ok : Int → Prop} {cf : Int → Int → Int}
theorem take_get {R : List Int} {k : Nat} {y : Int} (h : R[k]? = some y) : R[k]! = y := by
  rw [List.getElem!_eq_getElem?_getD, h]; rfl
theorem m230_a (C : CSp M) (hb : b < h.length) (hn : n < 2305843009213693952) (hc : Cmpp PL M h b g ok cf) (hcf : ∀ x y, ok x → ok y → (cf x y < 0 ↔ key y < key x)) (A : List Int) (x : Int) (R B : List Int) (hR0 : R ≠ []) (hl : (A ++ [x] ++ R ++ B).length = n) (hR : Sd key R) (hlt : ∀ y ∈ R, x < y) (hx : ok x) (ho : ∀ y ∈ R, ok y) :
    Mrgp PL M h b n cap g key A [x] R B := by
  have hl' : A.length + 1 + R.length + B.length = n := by simp at hl; omega
  have h0 : ([x] : List Int).length = 1 := rfl
  have hRl : 0 < R.length := List.length_pos_iff.2 hR0
  have gR : ∀ i, i < R.length → (A ++ [x] ++ R ++ B)[A.length + [x].length + i]! = R[i]! := fun i hi => atR hi
  have ga : (A ++ [x] ++ R ++ B)[A.length]! = x := atL (i := 0) (by simp)
  have D : ∀ i, i < R.length → (cf R[i]! x < 0 ↔ Lt key R[i]! x) := fun i hi => (hcf _ _ (ho _ (getD_mem hi)) hx).trans (Lt.iff (hlt _ (getD_mem hi))).symm
  have split : ∀ k, A.length + [x].length ≤ k → k < A.length + [x].length + R.length → ∃ i, i < R.length ∧ k = A.length + [x].length + i := fun k h1 h2 => ⟨k - (A.length + [x].length), by omega, by omega⟩
  obtain ⟨l', wr, hw, ⟨S, rfl, g2, g3⟩, hr⟩ := run_put (M := M) (l := A ++ [x] ++ R ++ B) (e := 116) (f := pf PL) (P := fun l' => ∃ S, l' = A ++ S ++ B ∧ Sd key S ∧ S.Perm ([x] ++ R))
    (ars := [.sl b 0 n 5 cap, .int .i64 A.length, .int .i64 (A.length + [x].length : Nat), .int .i64 (A.length + [x].length + R.length : Nat), g]) (by rw [C.ft]; exact ft230) (by simp) hb (fun _ => rfl) (by
      unfold b230
      simp only [List.map_cons, List.map_nil, List.getElem?_cons_zero, List.getElem?_cons_succ, List.getElem?_nil, Option.getD_some, Option.getD_none]
      repeat' first | apply W.seq | apply SQn | apply W.region | apply WO.nil | apply W.block | (apply W.condT; exact rfl) | (apply WO.eql; exact rfl; exact rfl; all_goals first | (intro _; exfalso; omega) | intro _) | (apply WO.sub; exact rfl; exact rfl; omega) | (apply WO.pl; exact rfl; exact rfl) | (apply WO.pp; exact rfl; exact rfl)
      refine loop230_0 hn hb hc (A ++ [x] ++ R ++ B) hl A.length (A.length + [x].length) (A.length + [x].length + R.length) (by omega) (by omega) (fun k h1 h2 => ?_) (by rw [ga]; exact hx) _ _ _ _ _ _ _ _ _ _ _ _ _ _ _ (fun k k' h1 h2 h3 h4 => ?_) R.length (A.length + [x].length) (A.length + [x].length + R.length) _ _ (by omega) (Nat.le_refl _) (by omega) (Nat.le_refl _) (fun k h1 h2 => by omega) (fun k h1 h2 => by omega) (fun i a7 lo h1 h2 h3 h4 => ?_)
      · obtain ⟨i, hi, rfl⟩ := split k h1 h2
        rw [gR i hi]; exact ho _ (getD_mem hi)
      · obtain ⟨i, hi, rfl⟩ := split k h1 (by omega)
        obtain ⟨j, hj, rfl⟩ := split k' (by omega) h3
        rw [gR j hj, ga] at h4
        rw [gR i hi, ga]
        exact (D i hi).2 ((sd_get hR (by omega) hj).trans ((D j hj).1 h4))
      · obtain ⟨i, hi, rfl⟩ : ∃ j, j ≤ R.length ∧ i = A.length + [x].length + j := ⟨i - (A.length + [x].length), by omega, by omega⟩
        have hs : Sd key (R.take i ++ x :: R.drop i) := by
          refine one_left hR (fun k y hk hy => ?_) (fun k y hk hy => ?_)
          · have hkl := (List.getElem?_eq_some_iff.1 hy).1
            have := h3 (A.length + [x].length + k) (by omega) (by omega)
            rw [gR k hkl, ga] at this
            rw [← take_get hy]; exact (D k hkl).1 this
          · have hkl := (List.getElem?_eq_some_iff.1 hy).1
            have := h4 (A.length + [x].length + k) (by omega) (by omega)
            rw [gR k hkl, ga, D k hkl] at this
            rw [← take_get hy]; exact Lt.tot (hlt _ (getD_mem hkl)) this
        have hti : (R.take i).length = i := by rw [List.length_take]; omega
        repeat' first | apply W.seq | apply SQn | apply W.region | apply WO.nil | apply W.block | apply BQe | (apply WO.pl; exact rfl; exact rfl) | (apply WO.pp; exact rfl; exact rfl)
        rw [show A ++ [x] ++ R ++ B = A ++ x :: (R.take i ++ (R.drop i ++ B)) by rw [← List.append_assoc (R.take i), List.take_append_drop]; simp]
        refine loop230_1 hn hb x (R.drop i ++ B) (A.length + [x].length + i) _ _ _ _ _ _ _ _ _ _ _ _ _ _ _ _ (R.take i) A _ _ (by omega) (by simp; omega) Only.nil (fun a8 lo wr L k1 k2 => ?_)
        repeat' first | apply SQn | apply W.ret | apply SQr | apply BQe
        exact ⟨.inr rfl, rfl, L, rfl, k1, R.take i ++ x :: R.drop i, by rw [k2]; simp, hs, by
          have := List.perm_middle (a := x) (l₁ := R.take i) (l₂ := R.drop i)
          rwa [List.take_append_drop] at this⟩)
  exact ⟨S, wr, hw, ⟨g2, g3⟩, ct_of_run C.n230 hr⟩
theorem m230_b (C : CSp M) (hb : b < h.length) (hn : n < 2305843009213693952) (hc : Cmpp PL M h b g ok cf) (hcf : ∀ x y, ok x → ok y → (cf x y < 0 ↔ key y < key x)) (A L : List Int) (y : Int) (B : List Int) (hL0 : 1 < L.length) (hl : (A ++ L ++ [y] ++ B).length = n) (hL : Sd key L) (hlt : ∀ x ∈ L, x < y) (hy : ok y) (ho : ∀ x ∈ L, ok x) :
    Mrgp PL M h b n cap g key A L [y] B := by
  have hl' : A.length + L.length + 1 + B.length = n := by simp at hl; omega
  have h0 : ([y] : List Int).length = 1 := rfl
  have gL : ∀ i, i < L.length → (A ++ L ++ [y] ++ B)[A.length + i]! = L[i]! := fun i hi => atL hi
  have gm : (A ++ L ++ [y] ++ B)[A.length + L.length]! = y := atR (i := 0) (by simp)
  have D : ∀ i, i < L.length → (cf y L[i]! < 0 ↔ Lt key y L[i]!) := fun i hi => (hcf _ _ hy (ho _ (getD_mem hi))).trans (Lt.iff (hlt _ (getD_mem hi))).symm
  have split : ∀ k, A.length ≤ k → k < A.length + L.length → ∃ i, i < L.length ∧ k = A.length + i := fun k h1 h2 => ⟨k - A.length, by omega, by omega⟩
  obtain ⟨l', wr, hw, ⟨S, rfl, g2, g3⟩, hr⟩ := run_put (M := M) (l := A ++ L ++ [y] ++ B) (e := 116) (f := pf PL) (P := fun l' => ∃ S, l' = A ++ S ++ B ∧ Sd key S ∧ S.Perm (L ++ [y]))
    (ars := [.sl b 0 n 5 cap, .int .i64 A.length, .int .i64 (A.length + L.length : Nat), .int .i64 (A.length + L.length + [y].length : Nat), g]) (by rw [C.ft]; exact ft230) (by simp) hb (fun _ => rfl) (by
      unfold b230
      simp only [List.map_cons, List.map_nil, List.getElem?_cons_zero, List.getElem?_cons_succ, List.getElem?_nil, Option.getD_some, Option.getD_none]
      repeat' first | apply W.seq | apply SQn | apply W.region | apply WO.nil | apply W.block | apply W.skip | (apply W.condT; exact rfl) | (apply W.condF; exact rfl) | (apply WO.eql; exact rfl; exact rfl; all_goals first | (intro _; exfalso; omega) | intro _) | (apply WO.sub; exact rfl; exact rfl; omega) | (apply WO.pl; exact rfl; exact rfl) | (apply WO.pp; exact rfl; exact rfl)
      refine loop230_2 hn hb hc (A ++ L ++ [y] ++ B) hl (A.length + L.length) A.length (A.length + L.length) (by omega) (by omega) (fun k h1 h2 => ?_) (by rw [gm]; exact hy) _ _ _ _ _ _ _ _ _ _ _ _ _ _ _ (fun k k' h1 h2 h3 h4 => ?_) L.length A.length (A.length + L.length) _ _ (by omega) (Nat.le_refl _) (by omega) (Nat.le_refl _) (fun k h1 h2 => by omega) (fun k h1 h2 => by omega) (fun i a11 lo h1 h2 h3 h4 => ?_)
      · obtain ⟨i, hi, rfl⟩ := split k h1 h2
        rw [gL i hi]; exact ho _ (getD_mem hi)
      · obtain ⟨i, hi, rfl⟩ := split k h1 (by omega)
        obtain ⟨j, hj, rfl⟩ := split k' (by omega) h3
        rw [gL j hj, gm] at h4
        rw [gL i hi, gm]
        exact fun h => h4 ((D j hj).2 (((D i hi).1 h).trans (sd_get hL (by omega) hj)))
      · obtain ⟨i, hi, rfl⟩ : ∃ j, j ≤ L.length ∧ i = A.length + j := ⟨i - A.length, by omega, by omega⟩
        have hs : Sd key (L.take i ++ y :: L.drop i) := by
          refine one_left hL (fun k z hk hz => ?_) (fun k z hk hz => ?_)
          · have hkl := (List.getElem?_eq_some_iff.1 hz).1
            have := h3 (A.length + k) (by omega) (by omega)
            rw [gL k hkl, gm, D k hkl] at this
            rw [← take_get hz]; exact Lt.tot (hlt _ (getD_mem hkl)) this
          · have hkl := (List.getElem?_eq_some_iff.1 hz).1
            have := h4 (A.length + k) (by omega) (by omega)
            rw [gL k hkl, gm] at this
            rw [← take_get hz]; exact (D k hkl).1 this
        have hti : (L.take i).length = i := by rw [List.length_take]; omega
        have htd : (L.drop i).length = L.length - i := List.length_drop
        repeat' first | apply W.seq | apply SQn | apply W.region | apply WO.nil | apply W.block | apply BQe | (apply WO.pl; exact rfl; exact rfl) | (apply WO.pp; exact rfl; exact rfl)
        rw [show A ++ L ++ [y] ++ B = (A ++ L.take i) ++ L.drop i ++ y :: B by rw [List.append_assoc A (L.take i), List.take_append_drop]; simp]
        rw [show ((A.length + i : Nat) : Int) = ((A ++ L.take i).length : Int) by rw [List.length_append, hti], show ((A.length + L.length : Nat) : Int) = (((A ++ L.take i).length + (L.drop i).length : Nat) : Int) by rw [List.length_append, hti, htd]; omega]
        refine loop230_3 hn hb y (A ++ L.take i) _ _ _ _ _ _ _ _ _ _ _ _ _ _ _ _ (L.drop i).length (L.drop i) B _ _ rfl (by simp; omega) Only.nil (fun a12 lo wr L' k1 k2 => ?_)
        repeat' first | apply SQn | apply W.ret | apply SQr | apply BQe
        exact ⟨.inr rfl, rfl, L', rfl, k1, L.take i ++ y :: L.drop i, by rw [k2]; simp, hs, by
          have := List.perm_middle (a := y) (l₁ := L.take i) (l₂ := L.drop i)
          rw [List.take_append_drop] at this
          exact this.trans (List.perm_append_comm (l₁ := [y]) (l₂ := L))⟩)
  exact ⟨S, wr, hw, ⟨g2, g3⟩, ct_of_run C.n230 hr⟩
def t230_0 : ICode :=
 .seq (.region [⟨(.l 175), .mv (.p 14), none⟩,
    ⟨(.l 176), .mv (.p 15), none⟩,
    ⟨(.l 177), .bin .sub (.l 175) (.l 176), none⟩,
    ⟨(.p 19), .mv (.l 177), none⟩])
  (.seq t230_1 (.seq t230_2 t230_3))
set_option maxHeartbeats 4000000 in
theorem m230 (C : CSp M) (hb : b < h.length) (hn : n < 2305843009213693952) (hc : Cmpp PL M h b g ok cf) (hcf : ∀ x y, ok x → ok y → (cf x y < 0 ↔ key y < key x)) : ∀ (k : Nat) (A L R B : List Int), L.length + R.length ≤ k → L ≠ [] → R ≠ [] → (A ++ L ++ R ++ B).length = n → Sd key L → Sd key R → (∀ x ∈ L, ∀ y ∈ R, x < y) → (∀ x ∈ L, ok x) → (∀ y ∈ R, ok y) → Mrgp PL M h b n cap g key A L R B
  | 0, A, L, R, B, hk, hL0, hR0, hl, hL, hR, hlt, ho, ho' => absurd (List.length_eq_zero_iff.1 (by omega)) hL0
  | k + 1, A, L, R, B, hk, hL0, hR0, hl, hL, hR, hlt, ho, ho' => by
    have hLl : 0 < L.length := List.length_pos_iff.2 hL0
    have hRl : 0 < R.length := List.length_pos_iff.2 hR0
    have hl' : A.length + L.length + R.length + B.length = n := by simp at hl; omega
    by_cases c1 : L.length = 1
    · obtain ⟨x, rfl⟩ := List.length_eq_one_iff.1 c1
      exact m230_a C hb hn hc hcf A x R B hR0 hl hR (hlt x (by simp)) (ho x (by simp)) ho'
    by_cases c2 : R.length = 1
    · obtain ⟨y, rfl⟩ := List.length_eq_one_iff.1 c2
      exact m230_b C hb hn hc hcf A L y B (by omega) hl hL (fun x hx => hlt x hx y (by simp)) (ho' y (by simp)) ho
    have gL : ∀ i, i < L.length → (A ++ L ++ R ++ B)[A.length + i]! = L[i]! := fun i hi => atL hi
    have gR : ∀ i, i < R.length → (A ++ L ++ R ++ B)[A.length + L.length + i]! = R[i]! := fun i hi => atR hi
    obtain ⟨a, ea⟩ : ∃ a, a = A.length := ⟨_, rfl⟩
    obtain ⟨m, em⟩ : ∃ m, m = A.length + L.length := ⟨_, rfl⟩
    obtain ⟨e, ee⟩ : ∃ e, e = A.length + L.length + R.length := ⟨_, rfl⟩
    obtain ⟨mid, emid⟩ : ∃ mid, mid = (a + e) / 2 := ⟨_, rfl⟩
    -- what the search compares: a place of the left list, and its counterpart in the right one
    have D : ∀ c, a ≤ c → c < m → m ≤ mid + m - 1 - c → mid + m - 1 - c < e → ok (A ++ L ++ R ++ B)[c]! ∧ ok (A ++ L ++ R ++ B)[mid + m - 1 - c]! ∧ (cf (A ++ L ++ R ++ B)[mid + m - 1 - c]! (A ++ L ++ R ++ B)[c]! < 0 ↔ Lt key (A ++ L ++ R ++ B)[mid + m - 1 - c]! (A ++ L ++ R ++ B)[c]!) ∧ (A ++ L ++ R ++ B)[c]! < (A ++ L ++ R ++ B)[mid + m - 1 - c]! := by
      intro c h1 h2 h3 h4
      obtain ⟨i, hi, rfl⟩ : ∃ i, i < L.length ∧ c = A.length + i := ⟨c - A.length, by omega, by omega⟩
      obtain ⟨j, hj, ej⟩ : ∃ j, j < R.length ∧ mid + m - 1 - (A.length + i) = A.length + L.length + j := ⟨mid + m - 1 - (A.length + i) - (A.length + L.length), by omega, by omega⟩
      rw [ej, gL i hi, gR j hj]
      have hxy := hlt _ (getD_mem hi) _ (getD_mem hj)
      exact ⟨ho _ (getD_mem hi), ho' _ (getD_mem hj), (hcf _ _ (ho' _ (getD_mem hj)) (ho _ (getD_mem hi))).trans (Lt.iff hxy).symm, hxy⟩
    have sL : ∀ c c', a ≤ c → c < c' → c' < m → Lt key (A ++ L ++ R ++ B)[c]! (A ++ L ++ R ++ B)[c']! := by
      intro c c' h1 h2 h3
      obtain ⟨i, hi, rfl⟩ : ∃ i, i < L.length ∧ c = A.length + i := ⟨c - A.length, by omega, by omega⟩
      obtain ⟨j, hj, rfl⟩ : ∃ j, j < L.length ∧ c' = A.length + j := ⟨c' - A.length, by omega, by omega⟩
      rw [gL i hi, gL j hj]; exact sd_get hL (by omega) hj
    have sR : ∀ c c', m ≤ c → c < c' → c' < e → Lt key (A ++ L ++ R ++ B)[c]! (A ++ L ++ R ++ B)[c']! := by
      intro c c' h1 h2 h3
      obtain ⟨i, hi, rfl⟩ : ∃ i, i < R.length ∧ c = A.length + L.length + i := ⟨c - (A.length + L.length), by omega, by omega⟩
      obtain ⟨j, hj, rfl⟩ : ∃ j, j < R.length ∧ c' = A.length + L.length + j := ⟨c' - (A.length + L.length), by omega, by omega⟩
      rw [gR i hi, gR j hj]; exact sd_get hR (by omega) hj
    -- behind the search
    have key1 : ∀ (s0 r0 st : Nat), (m ≤ mid ∧ s0 = a ∧ r0 = m ∨ mid < m ∧ s0 = mid + m - e ∧ r0 = mid) → s0 ≤ st → st ≤ r0 → (∀ c, s0 ≤ c → c < st → ¬ cf (A ++ L ++ R ++ B)[mid + m - 1 - c]! (A ++ L ++ R ++ B)[c]! < 0) → (∀ c, st ≤ c → c < r0 → cf (A ++ L ++ R ++ B)[mid + m - 1 - c]! (A ++ L ++ R ++ B)[c]! < 0) →
        a ≤ st ∧ st ≤ m ∧ m ≤ mid + m - st ∧ mid + m - st ≤ e ∧ ∀ x ∈ L.take (st - a) ++ R.take (mid - st), ∀ y ∈ L.drop (st - a) ++ R.drop (mid - st), Lt key x y := by
      intro s0 r0 st hs h1 h2 h3 h4
      have hb' : a ≤ st ∧ st ≤ m ∧ m ≤ mid + m - st ∧ mid + m - st ≤ e := by omega
      refine ⟨hb'.1, hb'.2.1, hb'.2.2.1, hb'.2.2.2, sym_cross (by rw [List.take_append_drop]; exact hL) (by rw [List.take_append_drop]; exact hR) (fun x y hx hy => ?_) (fun x y hx hy => ?_)⟩
      · have hlen : 0 < (L.take (st - a)).length := by
          cases hz : L.take (st - a) with
          | nil => rw [hz] at hx; cases hx
          | cons _ _ => simp
        rw [List.length_take] at hlen
        rw [List.getLast?_eq_getElem?, List.length_take, List.getElem?_take, if_pos (by omega)] at hx
        rw [List.head?_eq_getElem?, List.getElem?_drop] at hy
        have hyl := (List.getElem?_eq_some_iff.1 hy).1
        have q := h3 (st - 1) (by omega) (by omega)
        obtain ⟨_, _, q2, q3⟩ := D (st - 1) (by omega) (by omega) (by omega) (by omega)
        rw [q2] at q
        have q4 := Lt.tot q3 q
        rw [show st - 1 = A.length + (min (st - a) L.length - 1) by omega, gL _ (by omega), show mid + m - 1 - (A.length + (min (st - a) L.length - 1)) = A.length + L.length + (mid - st + 0) by omega, gR _ (by omega), take_get hx, take_get hy] at q4
        exact q4
      · have hlen : 0 < (R.take (mid - st)).length := by
          cases hz : R.take (mid - st) with
          | nil => rw [hz] at hy; cases hy
          | cons _ _ => simp
        rw [List.length_take] at hlen
        rw [List.getLast?_eq_getElem?, List.length_take, List.getElem?_take, if_pos (by omega)] at hy
        rw [List.head?_eq_getElem?, List.getElem?_drop] at hx
        have hxl := (List.getElem?_eq_some_iff.1 hx).1
        have q := h4 st (by omega) (by omega)
        obtain ⟨_, _, q2, q3⟩ := D st (by omega) (by omega) (by omega) (by omega)
        rw [q2] at q
        rw [show st = A.length + (st - a + 0) by omega, gL _ (by omega), show mid + m - 1 - (A.length + (st - a + 0)) = A.length + L.length + (min (mid - st) R.length - 1) by omega, gR _ (by omega), take_get hx, take_get hy] at q
        exact q
    have mono : ∀ (s0 r0 : Nat), (m ≤ mid ∧ s0 = a ∧ r0 = m ∨ mid < m ∧ s0 = mid + m - e ∧ r0 = mid) → ∀ c c', s0 ≤ c → c < c' → c' < r0 → ¬ cf (A ++ L ++ R ++ B)[mid + m - 1 - c']! (A ++ L ++ R ++ B)[c']! < 0 → ¬ cf (A ++ L ++ R ++ B)[mid + m - 1 - c]! (A ++ L ++ R ++ B)[c]! < 0 := by
      intro s0 r0 hs c c' h1 h2 h3 h4 h5
      obtain ⟨_, _, q2, _⟩ := D c (by omega) (by omega) (by omega) (by omega)
      obtain ⟨_, _, q2', _⟩ := D c' (by omega) (by omega) (by omega) (by omega)
      rw [q2'] at h4
      rw [q2] at h5
      exact h4 (((sR _ _ (by omega) (by omega) (by omega)).trans h5).trans (sL c c' (by omega) h2 (by omega)))
    have E1 : ((A.length : Int) + ((A.length + L.length + R.length : Nat) : Int)) / 2 = (mid : Int) := by omega
    have E2 : (mid : Int) + ((A.length + L.length : Nat) : Int) = ((mid + m : Nat) : Int) := by omega
    have E3 : ((mid + m : Nat) : Int) - 1 = ((mid + m - 1 : Nat) : Int) := by omega
    obtain ⟨l', wr, hw, ⟨S, rfl, g2, g3⟩, hr⟩ := run_put (M := M) (l := A ++ L ++ R ++ B) (e := 116) (f := pf PL) (P := fun l' => ∃ S, l' = A ++ S ++ B ∧ Sd key S ∧ S.Perm (L ++ R))
      (ars := [.sl b 0 n 5 cap, .int .i64 A.length, .int .i64 (A.length + L.length : Nat), .int .i64 (A.length + L.length + R.length : Nat), g]) (by rw [C.ft]; exact ft230) (by simp) hb (fun _ => rfl) (by
        have finish : ∀ (s0 r0 st : Nat), (m ≤ mid ∧ s0 = a ∧ r0 = m ∨ mid < m ∧ s0 = mid + m - e ∧ r0 = mid) → s0 ≤ st → st ≤ r0 → (∀ c, s0 ≤ c → c < st → ¬ cf (A ++ L ++ R ++ B)[mid + m - 1 - c]! (A ++ L ++ R ++ B)[c]! < 0) → (∀ c, st ≤ c → c < r0 → cf (A ++ L ++ R ++ B)[mid + m - 1 - c]! (A ++ L ++ R ++ B)[c]! < 0) →
            ∀ (a5 a6 a7 a8 a9 a10 a11 a12 a16 a17 a18 a19 : AV) (lo : List (Nat × AV)), W M t230_0 ⟨⟨[.sl b 0 n 5 cap, .int .i64 A.length, .int .i64 (A.length + L.length : Nat), .int .i64 (A.length + L.length + R.length : Nat), g, a5, a6, a7, a8, a9, a10, a11, a12, .int .i64 mid, .int .i64 (mid + m : Nat), .int .i64 st, a16, a17, a18, a19], lo, h.put b (some (.cells (arr (pf PL) (A ++ L ++ R ++ B)) 116)), []⟩, []⟩
              fun x s => (x = .normal ∨ x = .ret) ∧ s.s.dfs = [] ∧ ∃ l', s.s.hp = h.put b (some (.cells (arr (pf PL) l') 116)) ∧ Only b s.wr ∧ ∃ S, l' = A ++ S ++ B ∧ Sd key S ∧ S.Perm (L ++ R) := by
          intro s0 r0 st hs h1 h2 h3 h4 a5 a6 a7 a8 a9 a10 a11 a12 a16 a17 a18 a19 lo
          obtain ⟨k1, k2, k3, k4, k5⟩ := key1 s0 r0 st hs h1 h2 h3 h4
          obtain ⟨L1, hL1⟩ : ∃ x, x = L.take (st - a) := ⟨_, rfl⟩
          obtain ⟨L2, hL2⟩ : ∃ x, x = L.drop (st - a) := ⟨_, rfl⟩
          obtain ⟨R1, hR1⟩ : ∃ x, x = R.take (mid - st) := ⟨_, rfl⟩
          obtain ⟨R2, hR2⟩ : ∃ x, x = R.drop (mid - st) := ⟨_, rfl⟩
          have eL : L = L1 ++ L2 := by rw [hL1, hL2, List.take_append_drop]
          have eR : R = R1 ++ R2 := by rw [hR1, hR2, List.take_append_drop]
          have nL1 : L1.length = st - a := by rw [hL1, List.length_take]; omega
          have nL2 : L2.length = m - st := by rw [hL2, List.length_drop]; omega
          have nR1 : R1.length = mid - st := by rw [hR1, List.length_take]; omega
          have nR2 : R2.length = e - (mid + m - st) := by rw [hR2, List.length_drop]; omega
          rw [← hL1, ← hL2, ← hR1, ← hR2] at k5
          have sL1 : Sd key L1 := by rw [hL1]; exact hL.split.1
          have sL2 : Sd key L2 := by rw [hL2]; exact hL.split.2
          have sR1 : Sd key R1 := by rw [hR1]; exact hR.split.1
          have sR2 : Sd key R2 := by rw [hR2]; exact hR.split.2
          have hM1 : L1 ≠ [] → R1 ≠ [] → Mrgp PL M h b n cap g key A L1 R1 (L2 ++ R2 ++ B) := fun e1 e2 => m230 C hb hn hc hcf k A L1 R1 (L2 ++ R2 ++ B) (by omega) e1 e2 (by simp; omega) sL1 sR1 (fun x hx y hy => hlt x (by rw [eL]; simp [hx]) y (by rw [eR]; simp [hy])) (fun x hx => ho x (by rw [eL]; simp [hx])) (fun y hy => ho' y (by rw [eR]; simp [hy]))
          have fin2 : ∀ lo wr l', Only b wr → l' = (A ++ L1) ++ R1 ++ L2 ++ (R2 ++ B) → W M (.seq t230_2 t230_3) ⟨⟨[.sl b 0 n 5 cap, .int .i64 A.length, .int .i64 (A.length + L.length : Nat), .int .i64 (A.length + L.length + R.length : Nat), g, a5, a6, a7, a8, a9, a10, a11, a12, .int .i64 mid, .int .i64 (mid + m : Nat), .int .i64 st, a16, a17, a18, .int .i64 (((mid + m : Nat) : Int) - (st : Int))], lo, h.put b (some (.cells (arr (pf PL) l') 116)), []⟩, wr⟩
              fun x s => (x = .normal ∨ x = .ret) ∧ s.s.dfs = [] ∧ ∃ l', s.s.hp = h.put b (some (.cells (arr (pf PL) l') 116)) ∧ Only b s.wr ∧ ∃ S, l' = A ++ S ++ B ∧ Sd key S ∧ S.Perm (L ++ R) := by
            intro lo wr l' w1 w2
            apply W.seq
            refine pp2 A L1 R1 (L2 ++ R2 ++ B) hM1 sL1 sR1 (by rw [w2]; simp) (by omega) (by omega) (by omega) w1 (fun S1 lo wr l' v1 v2 v3 v4 => ?_)
            apply SQn
            have nS1 : S1.length = mid - a := by rw [v3.length_eq, List.length_append]; omega
            have hM2 : L2 ≠ [] → R2 ≠ [] → Mrgp PL M h b n cap g key (A ++ S1) L2 R2 B := fun e1 e2 => m230 C hb hn hc hcf k (A ++ S1) L2 R2 B (by omega) e1 e2 (by simp; omega) sL2 sR2 (fun x hx y hy => hlt x (by rw [eL]; simp [hx]) y (by rw [eR]; simp [hy])) (fun x hx => ho x (by rw [eL]; simp [hx])) (fun y hy => ho' y (by rw [eR]; simp [hy]))
            refine pp3 (A ++ S1) L2 R2 B hM2 sL2 sR2 (by rw [v4]; simp) (by simp; omega) (by simp; omega) (by simp; omega) v1 (fun S2 lo wr l' u1 u2 u3 u4 => ?_)
            refine ⟨.inl rfl, rfl, l', rfl, u1, S1 ++ S2, by rw [u4]; simp, v2.app u2 (fun x hx y hy => k5 x (v3.mem_iff.1 hx) y (u3.mem_iff.1 hy)), ?_⟩
            have p1 : (S1 ++ S2).Perm ((L1 ++ R1) ++ (L2 ++ R2)) := v3.append u3
            have p2 : ((L1 ++ R1) ++ (L2 ++ R2)).Perm ((L1 ++ L2) ++ (R1 ++ R2)) := by
              have : (R1 ++ L2).Perm (L2 ++ R1) := List.perm_append_comm
              have := (this.append_right R2).append_left L1
              simpa using this
            rw [eL, eR]
            exact p1.trans p2
          unfold t230_0
          repeat' first | (refine pp1 C hb hn (A ++ L1) L2 R1 (R2 ++ B) (by rw [eL, eR]; simp) (by simp; omega) (by simp; omega) (by simp; omega) (by simp; omega) Only.nil (fun lo wr l' w1 w2 => SQn (fin2 lo wr l' w1 w2))) | apply W.seq | apply SQn | apply W.region | apply WO.nil | (apply WO.sub; exact rfl; exact rfl; omega) | (apply WO.pl; exact rfl; exact rfl) | (apply WO.pp; exact rfl; exact rfl)
        unfold b230
        simp only [List.map_cons, List.map_nil, List.getElem?_cons_zero, List.getElem?_cons_succ, List.getElem?_nil, Option.getD_some, Option.getD_none]
        by_cases cm : m ≤ mid
        · have hs : m ≤ mid ∧ A.length = a ∧ A.length + L.length = m ∨ mid < m ∧ A.length = mid + m - e ∧ A.length + L.length = mid := .inl ⟨cm, ea.symm, em.symm⟩
          repeat' first | apply W.seq | apply SQn | apply W.region | apply WO.nil | apply W.block | apply W.skip | (apply W.condF; exact rfl) | (apply WO.gtr; exact rfl; exact rfl; all_goals first | (intro _; exfalso; omega) | intro _) | (apply WO.eql; exact rfl; exact rfl; all_goals first | (intro _; exfalso; omega) | intro _) | (apply WO.cvu; exact rfl; omega) | (apply WO.cvi; exact rfl; omega) | (apply WO.shr1; exact rfl) | (apply WO.add; exact rfl; exact rfl; omega) | (apply WO.sub; exact rfl; exact rfl; omega) | (apply WO.pl; exact rfl; exact rfl) | (apply WO.pp; exact rfl; exact rfl)
          rw [E1, E2, E3]
          refine loop230_4 hn hb hc (A ++ L ++ R ++ B) hl (mid + m - 1) A.length (A.length + L.length) (by omega) (by omega) (by omega) (fun c q1 q2 => ⟨(D c (by omega) (by omega) (by omega) (by omega)).1, (D c (by omega) (by omega) (by omega) (by omega)).2.1⟩) _ _ _ _ _ _ _ _ _ _ _ _ _ _ _ (mono _ _ hs) L.length A.length (A.length + L.length) _ _ (by omega) (Nat.le_refl _) (by omega) (Nat.le_refl _) (fun k h1 h2 => by omega) (fun k h1 h2 => by omega) (fun st a18 lo k1 k2 k3 k4 => ?_)
          repeat' first | (exact finish _ _ st hs k1 k2 k3 k4 _ _ _ _ _ _ _ _ _ _ _ _ _) | apply SQn | apply BQe
        · have hs : m ≤ mid ∧ mid + m - e = a ∧ mid = m ∨ mid < m ∧ mid + m - e = mid + m - e ∧ mid = mid := .inr ⟨by omega, rfl, rfl⟩
          have E4 : ((mid + m : Nat) : Int) - ((A.length + L.length + R.length : Nat) : Int) = ((mid + m - e : Nat) : Int) := by omega
          repeat' first | apply W.seq | apply SQn | apply W.region | apply WO.nil | apply W.block | apply W.skip | (apply W.condT; exact rfl) | (apply W.condF; exact rfl) | (apply WO.gtr; exact rfl; exact rfl; all_goals first | (intro _; exfalso; omega) | intro _) | (apply WO.eql; exact rfl; exact rfl; all_goals first | (intro _; exfalso; omega) | intro _) | (apply WO.cvu; exact rfl; omega) | (apply WO.cvi; exact rfl; omega) | (apply WO.shr1; exact rfl) | (apply WO.add; exact rfl; exact rfl; omega) | (apply WO.sub; exact rfl; exact rfl; omega) | (apply WO.pl; exact rfl; exact rfl) | (apply WO.pp; exact rfl; exact rfl)
          rw [E1, E2, E3, E4]
          refine loop230_4 hn hb hc (A ++ L ++ R ++ B) hl (mid + m - 1) (mid + m - e) mid (by omega) (by omega) (by omega) (fun c q1 q2 => ⟨(D c (by omega) (by omega) (by omega) (by omega)).1, (D c (by omega) (by omega) (by omega) (by omega)).2.1⟩) _ _ _ _ _ _ _ _ _ _ _ _ _ _ _ (mono _ _ hs) L.length (mid + m - e) mid _ _ (by omega) (Nat.le_refl _) (by omega) (Nat.le_refl _) (fun k h1 h2 => by omega) (fun k h1 h2 => by omega) (fun st a18 lo k1 k2 k3 k4 => ?_)
          repeat' first | (exact finish _ _ st hs k1 k2 k3 k4 _ _ _ _ _ _ _ _ _ _ _ _ _) | apply SQn | apply BQe
        )
    exact ⟨S, wr, hw, ⟨g2, g3⟩, ct_of_run C.n230 hr⟩
end Go.Ab.Ch6.Srp

/-
  Own work: slices.SortStableFunc over arr (pf PL): blocks and merges, whole.
-/
namespace Go.Ab.Ch6.Srp
open Go.Ab.Sort
variable {PL : List Place} {M : Mach} {h : Heap} {b n : Nat} {cap : Option Nat} {g : AV}
variable {key : Int → Int} {ok : Int → Prop} {cf : Int → Int → Int}
theorem loop193_0 (C : CSp M) (hb : b < h.length) (hn : n < 2305843009213693952) (hc : Cmpp PL M h b g ok cf) (hcf : ∀ x y, ok x → ok y → (cf x y < 0 ↔ key y < key x)) (a6 : AV) {Q : Ex → StW → Prop} : ∀ (r : Nat) (P X : List Int) (lo : List (Nat × AV)) (wr : List Nat), X.length ≤ r → (P ++ X).length = n → Only b wr → X.Pairwise (· < ·) → (∀ y ∈ X, ok y) →
    (∀ P' X' lo wr l a5, Only b wr → l = P' ++ X' → l.length = n → X'.length < 20 → X'.Pairwise (· < ·) → (∀ y ∈ X', ok y) → (∀ S, Sd key S → S.Perm X' → ∃ T, P' ++ S = P ++ T ∧ Ch key 20 T X) → Q (.exit 0) ⟨⟨[.sl b 0 n 5 cap, .int .i64 n, g, .int .i64 20, .int .i64 P'.length, a5, a6], lo, h.put b (some (.cells (arr (pf PL) l) 116)), []⟩, wr⟩) →
    W M (.loop b193_0) ⟨⟨[.sl b 0 n 5 cap, .int .i64 n, g, .int .i64 20, .int .i64 P.length, .int .i64 (P.length + 20 : Nat), a6], lo, h.put b (some (.cells (arr (pf PL) (P ++ X)) 116)), []⟩, wr⟩ Q := by
  intro r
  induction r with
  | zero =>
    intro P X lo wr hr hl hw hlt ho hQ
    have hl' : P.length + X.length = n := by simpa using hl
    refine W.loop ?_
    unfold b193_0
    repeat' first | apply W.seq | apply SQn | apply W.region | apply WO.nil | apply W.exit | apply SQe | apply LQe | (apply W.condF; exact rfl) | (apply WO.leq; exact rfl; exact rfl; all_goals first | (intro _; exfalso; omega) | intro _) | (apply WO.pl; exact rfl; exact rfl)
    · exact hQ P X _ _ _ _ hw rfl hl (by omega) hlt ho (fun S h1 h2 => ⟨S, rfl, .last (by rw [h2.length_eq]; omega) h1 h2⟩)
  | succ r ih =>
    intro P X lo wr hr hl hw hlt ho hQ
    have hl' : P.length + X.length = n := by simpa using hl
    refine W.loop ?_
    by_cases hX : X.length < 20
    · unfold b193_0
      repeat' first | apply W.seq | apply SQn | apply W.region | apply WO.nil | apply W.exit | apply SQe | apply LQe | (apply W.condF; exact rfl) | (apply WO.leq; exact rfl; exact rfl; all_goals first | (intro _; exfalso; omega) | intro _) | (apply WO.pl; exact rfl; exact rfl)
      · exact hQ P X _ _ _ _ hw rfl hl hX hlt ho (fun S h1 h2 => ⟨S, rfl, .last (by rw [h2.length_eq]; omega) h1 h2⟩)
    · obtain ⟨X1, X2, rfl, h1⟩ : ∃ X1 X2, X = X1 ++ X2 ∧ X1.length = 20 := ⟨X.take 20, X.drop 20, by simp, by simp; omega⟩
      have hl1 : (X1 ++ X2).length = X1.length + X2.length := List.length_append
      have hpw := List.pairwise_append.1 hlt
      obtain ⟨S, wr', hw', ⟨g1, g2⟩, hcc⟩ := r229 (cap := cap) (A := P) (X := X1) (B := X2) C hb hn hc hcf (by simpa using hl) hpw.1 (fun y hy => ho y (by simp [hy]))
      have hS : S.length = 20 := by rw [g2.length_eq, h1]
      rw [h1, List.append_assoc] at hcc
      unfold b193_0
      repeat' first | apply W.seq | apply SQn | apply W.region | apply WO.nil | apply W.block | apply W.skip | apply BQn | (apply W.condT; exact rfl) | (apply WO.leq; exact rfl; exact rfl; all_goals first | (intro _; exfalso; omega) | intro _) | (apply WO.add; exact rfl; exact rfl; omega) | (apply WO.ct; exact rfl; exact rfl; first | exact hcc) | (apply WO.pl; exact rfl; exact rfl) | (apply WO.pp; exact rfl; exact rfl)
      refine LQn ?_
      rw [show ((P.length + 20 : Nat) : Int) + 20 = (((P ++ S).length + 20 : Nat) : Int) by simp; omega, show ((P.length + 20 : Nat) : Int) = ((P ++ S).length : Int) by simp; omega]
      refine ih (P ++ S) X2 _ _ (by omega) (by simp; omega) (hw'.app hw) hpw.2.1 (fun y hy => ho y (by simp [hy])) (fun P' X' lo wr l a5 k1 k2 k3 k4 k5 k6 k7 => ?_)
      refine hQ P' X' lo wr l a5 k1 k2 k3 k4 k5 k6 (fun S' h3 h4 => ?_)
      obtain ⟨T, e1, e2⟩ := k7 S' h3 h4
      exact ⟨S ++ T, by rw [e1]; simp, .more hS g1 g2 e2⟩
theorem loop193_1 (C : CSp M) (hb : b < h.length) (hn : n < 2305843009213693952) (hc : Cmpp PL M h b g ok cf) (hcf : ∀ x y, ok x → ok y → (cf x y < 0 ↔ key y < key x)) (bs : Nat) (hbs : 0 < bs) (hbn : bs < n) (a6 : AV) {Q : Ex → StW → Prop} : ∀ (r : Nat) (P T T0 : List Int) (lo : List (Nat × AV)) (wr : List Nat), T.length ≤ r → (P ++ T).length = n → Only b wr → Ch key bs T T0 → T0.Pairwise (· < ·) → (∀ y ∈ T0, ok y) →
    (∀ P' T' T0' lo wr l a5, Only b wr → l = P' ++ T' → l.length = n → T'.length < 2 * bs → Ch key bs T' T0' → T0'.Pairwise (· < ·) → (∀ y ∈ T0', ok y) → (∀ U, Ch key (2 * bs) U T0' → ∃ U', P' ++ U = P ++ U' ∧ Ch key (2 * bs) U' T0) → Q (.exit 4) ⟨⟨[.sl b 0 n 5 cap, .int .i64 n, g, .int .i64 bs, .int .i64 P'.length, a5, a6], lo, h.put b (some (.cells (arr (pf PL) l) 116)), []⟩, wr⟩) →
    W M (.loop b193_1) ⟨⟨[.sl b 0 n 5 cap, .int .i64 n, g, .int .i64 bs, .int .i64 P.length, .int .i64 (P.length + 2 * bs : Nat), a6], lo, h.put b (some (.cells (arr (pf PL) (P ++ T)) 116)), []⟩, wr⟩ Q := by
  intro r
  induction r with
  | zero =>
    intro P T T0 lo wr hr hl hw hch hlt ho hQ
    have hl' : P.length + T.length = n := by simpa using hl
    refine W.loop ?_
    unfold b193_1
    repeat' first | apply W.seq | apply SQn | apply W.region | apply WO.nil | apply W.exit | apply SQe | apply LQe | (apply W.condF; exact rfl) | (apply WO.leq; exact rfl; exact rfl; all_goals first | (intro _; exfalso; omega) | intro _) | (apply WO.pl; exact rfl; exact rfl)
    · exact hQ P T T0 _ _ _ _ hw rfl hl (by omega) hch hlt ho (fun U h => ⟨U, rfl, h⟩)
  | succ r ih =>
    intro P T T0 lo wr hr hl hw hch hlt ho hQ
    have hl' : P.length + T.length = n := by simpa using hl
    refine W.loop ?_
    by_cases hT : T.length < 2 * bs
    · unfold b193_1
      repeat' first | apply W.seq | apply SQn | apply W.region | apply WO.nil | apply W.exit | apply SQe | apply LQe | (apply W.condF; exact rfl) | (apply WO.leq; exact rfl; exact rfl; all_goals first | (intro _; exfalso; omega) | intro _) | (apply WO.pl; exact rfl; exact rfl)
      · exact hQ P T T0 _ _ _ _ hw rfl hl hT hch hlt ho (fun U h => ⟨U, rfl, h⟩)
    · obtain ⟨S1, S10, m1, m10, rfl, rfl, h1, h2, h3, h4⟩ := hch.full (by omega)
      have hm1 : (S1 ++ m1).length = S1.length + m1.length := List.length_append
      obtain ⟨S2, S20, T2, T20, rfl, rfl, h5, h6, h7, h8⟩ := h4.full (by omega)
      have hm2 : (S2 ++ T2).length = S2.length + T2.length := List.length_append
      have hpw := List.pairwise_append.1 hlt
      have hpw2 := List.pairwise_append.1 hpw.2.1
      have hcross : ∀ x ∈ S1, ∀ y ∈ S2, x < y := fun x hx y hy => hpw.2.2 x (h3.mem_iff.1 hx) y (by simp [h7.mem_iff.1 hy])
      obtain ⟨S, wr', hw', ⟨g1, g2⟩, hcc⟩ := m230 (cap := cap) C hb hn hc hcf (S1.length + S2.length) P S1 S2 T2 (Nat.le_refl _) (List.length_pos_iff.1 (by omega)) (List.length_pos_iff.1 (by omega)) (by simp at hl ⊢; omega) h2 h6 hcross (fun x hx => ho x (by simp [h3.mem_iff.1 hx])) (fun y hy => ho y (by simp [h7.mem_iff.1 hy]))
      have hS : S.length = 2 * bs := by rw [g2.length_eq, List.length_append]; omega
      have hcc' : CT M (fn 230) [.sl b 0 n 5 cap, .int .i64 P.length, .int .i64 ((P.length : Int) + (bs : Int)), .int .i64 (P.length + 2 * bs : Nat), g] (h.put b (some (.cells (arr (pf PL) (P ++ (S1 ++ (S2 ++ T2)))) 116))) ⟨.tup [], h.put b (some (.cells (arr (pf PL) (P ++ S ++ T2)) 116)), wr'⟩ := by
        rw [show (P.length : Int) + (bs : Int) = ((P.length + S1.length : Nat) : Int) by omega, show P.length + 2 * bs = P.length + S1.length + S2.length by omega, show P ++ (S1 ++ (S2 ++ T2)) = P ++ S1 ++ S2 ++ T2 by simp]
        exact hcc
      unfold b193_1
      repeat' first | apply W.seq | apply SQn | apply W.region | apply WO.nil | apply W.block | apply W.skip | apply BQn | (apply W.condT; exact rfl) | (apply WO.leq; exact rfl; exact rfl; all_goals first | (intro _; exfalso; omega) | intro _) | (apply WO.add; exact rfl; exact rfl; omega) | (apply WO.mul; exact rfl; exact rfl; omega) | (apply WO.ct; exact rfl; exact rfl; first | exact hcc') | (apply WO.pl; exact rfl; exact rfl) | (apply WO.pp; exact rfl; exact rfl)
      refine LQn ?_
      rw [show ((P.length + 2 * bs : Nat) : Int) + 2 * (bs : Int) = (((P ++ S).length + 2 * bs : Nat) : Int) by simp; omega, show ((P.length + 2 * bs : Nat) : Int) = ((P ++ S).length : Int) by simp; omega]
      refine ih (P ++ S) T2 T20 _ _ (by omega) (by simp; omega) (hw'.app hw) h8 hpw2.2.1 (fun y hy => ho y (by simp [hy])) (fun P' T' T0' lo wr l a5 k1 k2 k3 k4 k5 k6 k7 k8 => ?_)
      refine hQ P' T' T0' lo wr l a5 k1 k2 k3 k4 k5 k6 k7 (fun U hU => ?_)
      obtain ⟨U', e1, e2⟩ := k8 U hU
      refine ⟨S ++ U', by rw [e1]; simp, ?_⟩
      have : Ch key (2 * bs) (S ++ U') ((S10 ++ S20) ++ T20) := .more hS g1 (g2.trans (h3.append h7)) e2
      simpa using this
set_option maxHeartbeats 1000000 in
theorem loop193_2 (C : CSp M) (hb : b < h.length) (hn : n < 2305843009213693952) (hc : Cmpp PL M h b g ok cf) (hcf : ∀ x y, ok x → ok y → (cf x y < 0 ↔ key y < key x)) (l0 : List Int) (hlt : l0.Pairwise (· < ·)) (ho : ∀ y ∈ l0, ok y) {Q : Ex → StW → Prop} : ∀ (r bs : Nat) (l : List Int) (a4 a5 a6 : AV) (lo : List (Nat × AV)) (wr : List Nat), n - bs ≤ r → 0 < bs → l.length = n → Only b wr → Ch key bs l l0 →
    (∀ l a3 a4 a5 a6 lo wr, Only b wr → Sd key l → l.Perm l0 → Q (.exit 2) ⟨⟨[.sl b 0 n 5 cap, .int .i64 n, g, a3, a4, a5, a6], lo, h.put b (some (.cells (arr (pf PL) l) 116)), []⟩, wr⟩) →
    W M (.loop b193_2) ⟨⟨[.sl b 0 n 5 cap, .int .i64 n, g, .int .i64 bs, a4, a5, a6], lo, h.put b (some (.cells (arr (pf PL) l) 116)), []⟩, wr⟩ Q := by
  intro r
  induction r with
  | zero =>
    intro bs l a4 a5 a6 lo wr hr hbs hl hw hch hQ
    refine W.loop ?_
    unfold b193_2
    repeat' first | apply W.seq | apply SQn | apply W.region | apply WO.nil | apply W.exit | apply SQe | apply LQe | (apply W.condF; exact rfl) | (apply WO.lss; exact rfl; exact rfl; all_goals first | (intro _; exfalso; omega) | intro _) | (apply WO.pl; exact rfl; exact rfl)
    · exact hQ l _ _ _ _ _ _ hw (hch.done (by omega)) hch.perm
  | succ r ih =>
    intro bs l a4 a5 a6 lo wr hr hbs hl hw hch hQ
    refine W.loop ?_
    by_cases hd : n ≤ bs
    · unfold b193_2
      repeat' first | apply W.seq | apply SQn | apply W.region | apply WO.nil | apply W.exit | apply SQe | apply LQe | (apply W.condF; exact rfl) | (apply WO.lss; exact rfl; exact rfl; all_goals first | (intro _; exfalso; omega) | intro _) | (apply WO.pl; exact rfl; exact rfl)
      · exact hQ l _ _ _ _ _ _ hw (hch.done (by omega)) hch.perm
    · have h0 : ([] : List Int).length = 0 := rfl
      unfold b193_2
      repeat' first | apply W.seq | apply SQn | apply W.region | apply WO.nil | apply W.block | apply W.skip | (apply W.condT; exact rfl) | (apply WO.lss; exact rfl; exact rfl; all_goals first | (intro _; exfalso; omega) | intro _) | (apply WO.mul; exact rfl; exact rfl; omega) | (apply WO.pl; exact rfl; exact rfl) | (apply WO.pp; exact rfl; exact rfl)
      rw [show (2 : Int) * (bs : Int) = ((([] : List Int).length + 2 * bs : Nat) : Int) by simp, show (AV.int .i64 0) = AV.int .i64 (([] : List Int).length : Int) from rfl]
      refine loop193_1 C hb hn hc hcf bs hbs (by omega) _ n [] l l0 _ _ (by omega) (by simpa using hl) hw hch hlt ho (fun P T T0 lo wr l a5 k1 k2 k3 k4 k5 k6 k7 k8 => ?_)
      have hlen : P.length + T.length = n := by rw [← k3, k2, List.length_append]
      by_cases hT : bs < T.length
      · obtain ⟨S1, S10, m1, m10, rfl, rfl, h1, h2, h3, h4⟩ := k5.full (by omega)
        have hm1 : (S1 ++ m1).length = S1.length + m1.length := List.length_append
        have hpw := List.pairwise_append.1 k6
        obtain ⟨S, wr', hw', ⟨g1, g2⟩, hcc⟩ := m230 (cap := cap) C hb hn hc hcf (S1.length + m1.length) P S1 m1 [] (Nat.le_refl _) (List.length_pos_iff.1 (by omega)) (List.length_pos_iff.1 (by omega)) (by simp; omega) h2 (h4.done (by omega)) (fun x hx y hy => hpw.2.2 x (h3.mem_iff.1 hx) y (h4.perm.mem_iff.1 hy)) (fun x hx => k7 x (by simp [h3.mem_iff.1 hx])) (fun y hy => k7 y (by simp [h4.perm.mem_iff.1 hy]))
        have hS : S.length ≤ 2 * bs := by rw [g2.length_eq, List.length_append]; omega
        have hcc' : CT M (fn 230) [.sl b 0 n 5 cap, .int .i64 P.length, .int .i64 ((P.length : Int) + (bs : Int)), .int .i64 n, g] (h.put b (some (.cells (arr (pf PL) l) 116))) ⟨.tup [], h.put b (some (.cells (arr (pf PL) (P ++ S)) 116)), wr'⟩ := by
          rw [show (P.length : Int) + (bs : Int) = ((P.length + S1.length : Nat) : Int) by omega, show ((n : Nat) : Int) = ((P.length + S1.length + m1.length : Nat) : Int) by omega, show l = P ++ S1 ++ m1 ++ [] by rw [k2]; simp, show P ++ S = P ++ S ++ [] by simp]
          exact hcc
        obtain ⟨U, e1, e2⟩ := k8 S (.last hS g1 (g2.trans (h3.append h4.perm)))
        repeat' first | apply W.seq | apply SQn | apply W.region | apply WO.nil | apply BQn | apply BQe | (apply W.condT; exact rfl) | (apply WO.lss; exact rfl; exact rfl; all_goals first | (intro _; exfalso; omega) | intro _) | (apply WO.add; exact rfl; exact rfl; omega) | (apply WO.mul; exact rfl; exact rfl; omega) | (apply WO.ct; exact rfl; exact rfl; first | exact hcc') | (apply WO.pl; exact rfl; exact rfl) | (apply WO.pp; exact rfl; exact rfl)
        refine LQn ?_
        rw [show (bs : Int) * 2 = ((2 * bs : Nat) : Int) by omega, e1, List.nil_append]
        exact ih (2 * bs) U _ _ _ _ _ (by omega) (by omega) (by have := congrArg List.length e1; simp at this; rw [← this, g2.length_eq]; simp; omega) (hw'.app k1) e2 hQ
      · obtain ⟨U, e1, e2⟩ := k8 T (.last (by omega) (k5.done (by omega)) k5.perm)
        repeat' first | apply W.seq | apply SQn | apply W.region | apply WO.nil | apply W.skip | apply BQn | apply BQe | (apply W.condF; exact rfl) | (apply WO.lss; exact rfl; exact rfl; all_goals first | (intro _; exfalso; omega) | intro _) | (apply WO.add; exact rfl; exact rfl; omega) | (apply WO.mul; exact rfl; exact rfl; omega) | (apply WO.pl; exact rfl; exact rfl) | (apply WO.pp; exact rfl; exact rfl)
        refine LQn ?_
        rw [show (bs : Int) * 2 = ((2 * bs : Nat) : Int) by omega, k2, e1, List.nil_append]
        exact ih (2 * bs) U _ _ _ _ _ (by omega) (by omega) (by have := congrArg List.length e1; simp at this; omega) k1 e2 hQ
theorem r143 (C : CSp M) (hb : b < h.length) (hn : n < 2305843009213693952) (hc : Cmpp PL M h b g ok cf) (hcf : ∀ x y, ok x → ok y → (cf x y < 0 ↔ key y < key x)) {l : List Int} (hl : l.length = n) (hlt : l.Pairwise (· < ·)) (ho : ∀ y ∈ l, ok y) :
    ∃ S wr, Only b wr ∧ (Sd key S ∧ S.Perm l) ∧ CT M (fn 143) [.sl b 0 n 5 cap, g] (h.put b (some (.cells (arr (pf PL) l) 116))) ⟨.tup [], h.put b (some (.cells (arr (pf PL) S) 116)), wr⟩ := by
  have h0 : ([] : List Int).length = 0 := rfl
  obtain ⟨S, wr, hw, ⟨g1, g2⟩, hr⟩ := run_put (M := M) (l := l) (e := 116) (f := pf PL) (P := fun l' => Sd key l' ∧ l'.Perm l)
    (ars := [.sl b 0 n 5 cap, .int .i64 n, g]) (by rw [C.ft]; exact ft193) (by simp) hb (fun _ => rfl) (by
      unfold b193
      simp only [List.map_cons, List.map_nil, List.getElem?_cons_zero, List.getElem?_cons_succ, List.getElem?_nil, Option.getD_some, Option.getD_none]
      repeat' first | apply W.seq | apply SQn | apply W.region | apply WO.nil | apply W.block | (apply WO.pl; exact rfl; exact rfl) | (apply WO.pp; exact rfl; exact rfl)
      refine loop193_0 C hb hn hc hcf _ n [] l _ _ (by omega) (by simpa using hl) Only.nil hlt ho (fun P X lo wr l' a5 k1 k2 k3 k4 k5 k6 k7 => ?_)
      have hlen : P.length + X.length = n := by rw [← k3, k2, List.length_append]
      obtain ⟨S, wr', hw', ⟨g1, g2⟩, hcc⟩ := r229 (cap := cap) (A := P) (X := X) (B := []) C hb hn hc hcf (by simpa using hlen) k5 k6
      have hcc' : CT M (fn 229) [.sl b 0 n 5 cap, .int .i64 P.length, .int .i64 n, g] (h.put b (some (.cells (arr (pf PL) l') 116))) ⟨.tup [], h.put b (some (.cells (arr (pf PL) (P ++ S)) 116)), wr'⟩ := by
        rw [show ((n : Nat) : Int) = ((P.length + X.length : Nat) : Int) by omega, show l' = P ++ X ++ [] by rw [k2]; simp, show P ++ S = P ++ S ++ [] by simp]
        exact hcc
      obtain ⟨T, e1, e2⟩ := k7 S g1 g2
      repeat' first | apply W.seq | apply SQn | apply W.region | apply WO.nil | apply W.block | apply BQe | (apply WO.ct; exact rfl; exact rfl; first | exact hcc') | (apply WO.pl; exact rfl; exact rfl)
      rw [e1, List.nil_append]
      refine loop193_2 C hb hn hc hcf l hlt ho n 20 T _ _ _ _ _ (by omega) (by omega) (by have := congrArg List.length e1; simp at this; rw [← this, g2.length_eq]; exact hlen) (hw'.app k1) e2 (fun l' a3 a4 a5 a6 lo wr q1 q2 q3 => ?_)
      repeat' first | apply BQe
      exact ⟨.inl rfl, rfl, l', rfl, q1, q2, q3⟩)
  have hct := ct_of_run C.n193 hr
  obtain ⟨S', wr', hw', ⟨rfl⟩, hr'⟩ := run_put (M := M) (l := l) (e := 116) (f := pf PL) (P := fun l' => l' = S)
    (ars := [.sl b 0 n 5 cap, g]) (by rw [C.ft]; exact ft143) (by simp) hb (fun _ => rfl) (by
      unfold b143
      simp only [List.map_cons, List.map_nil, List.getElem?_cons_zero, List.getElem?_cons_succ, List.getElem?_nil, Option.getD_some, Option.getD_none]
      repeat' first | apply W.region | apply WO.nil | (apply WO.ct; exact rfl; exact rfl; first | exact hct) | (apply WO.pl; exact rfl; exact rfl)
      exact ⟨.inl rfl, rfl, S, rfl, hw.app Only.nil, rfl⟩)
  exact ⟨S, wr', hw', ⟨g1, g2⟩, ct_of_run C.n143 hr'⟩
end Go.Ab.Ch6.Srp

/-
  Own work: chapter 6: comparisons of places, marks, the greatest trial.
-/
namespace Go.Ab.Ch6
open Go.Ab.Sort
variable {M : Mach} {cap c1 c2 : Option Nat}
theorem w145 (hft : M.FT = FT) (l : List Int) (hl : l.length < 1000000) : Run M 145 [.vs (ints l) l.length cap] [] ⟨.int .i64 (firstNZ l), [], []⟩ := by
  refine run_of_W (by rw [hft]; exact ft145) (by simp) ?_
  unfold b145
  simp only [List.map_cons, List.map_nil, List.getElem?_cons_zero, List.getElem?_cons_succ, List.getElem?_nil, Option.getD_some, Option.getD_none]
  repeat' first | apply W.seq | apply SQn | apply W.region | apply WO.nil | apply W.block | (apply WO.pp; exact rfl; exact rfl)
  refine W.loopI l.length (fun i s => firstNZ l = firstNZ (l.drop i) ∧ ∃ a3 lo wr, s = ⟨⟨[.vs (ints l) l.length cap, .int .i64 0, .int .i64 0, a3, .vs (ints l) l.length cap, .int .i64 l.length, .int .i64 i], lo, [], []⟩, wr⟩) (fun i s hi ⟨he, a3, lo, wr, hs⟩ => ?_) (fun s ⟨he, a3, lo, wr, hs⟩ => ?_) (Nat.zero_le _) ⟨rfl, _, _, _, rfl⟩
  · subst hs
    have e := firstNZ_drop (l := l) (i := ((i : Int)).toNat) hi
    unfold b145_0
    repeat' first | apply W.seq | apply SQn | apply W.region | apply WO.nil | apply W.block | apply W.ret | apply W.skip | apply SQr | apply BQn | apply BQr | apply LIr | (apply W.condT; exact rfl) | (apply W.condF; exact rfl) | (apply WO.lss; exact rfl; exact rfl; all_goals first | (intro _; exfalso; omega) | intro _) | (apply WO.neq; exact rfl; exact rfl; all_goals first | (intro _; exfalso; omega) | intro _) | (apply WO.add; exact rfl; exact rfl; omega) | (apply WO.iav; exact rfl; exact rfl; omega) | (apply WO.lda; exact rfl; exact fun _ => rfl; (first | omega | (simp only [List.length_set]; omega) | (simp; omega)); decide; exact rfl; case ia => infer_instance) | (apply WO.pl; exact rfl; exact rfl) | (apply WO.pp; exact rfl; exact rfl)
    · rename_i h
      rw [if_neg h] at e
      exact ⟨.inr rfl, rfl, _, rfl, by rw [he]; exact (congrArg (AV.int .i64) e).symm, rfl⟩
    · rename_i h
      rw [if_pos h] at e
      exact LIn ⟨he.trans e, _, _, _, rfl⟩
  · subst hs
    unfold b145_0
    repeat' first | apply W.seq | apply SQn | apply W.region | apply WO.nil | apply W.ret | apply W.exit | apply SQe | apply BQe | apply LIe | (apply W.condF; exact rfl) | (apply WO.lss; exact rfl; exact rfl; all_goals first | (intro _; exfalso; omega) | intro _) | (apply WO.pl; exact rfl; exact rfl) | (apply WO.pp; exact rfl; exact rfl)
    exact ⟨.inr rfl, rfl, _, rfl, by rw [he, List.drop_length]; rfl, rfl⟩
theorem maxF_snoc {x : Int} : ∀ {l : List Int} {m : Int}, maxF m (l ++ [x]) = max (maxF m l) x
  | [], m => rfl
  | y :: l, m => by rw [List.cons_append, maxF, maxF, maxF_snoc]
theorem mx_eq (a b : Int) : (if true = true then if b > a then b else a else if b < a then b else a) = max a b := by
  rw [if_pos rfl]; split <;> omega
theorem w124 (hft : M.FT = FT) (l : List Int) (h0 : l ≠ []) (hl : l.length < 1000000) : Run M 124 [.vs (ints l) l.length cap] [] ⟨.int .i64 (maxF l[0]! (l.drop 1)), [], []⟩ := by
  have hp : 0 < l.length := List.length_pos_iff.2 h0
  refine run_of_W (by rw [hft]; exact ft124) (by simp) ?_
  unfold b124
  simp only [List.map_cons, List.map_nil, List.getElem?_cons_zero, List.getElem?_cons_succ, List.getElem?_nil, Option.getD_some, Option.getD_none]
  repeat' first | apply W.seq | apply SQn | apply W.region | apply WO.nil | apply W.block | apply W.skip | (apply W.condF; exact rfl) | (apply WO.lss; exact rfl; exact rfl; all_goals first | (intro _; exfalso; omega) | intro _) | (apply WO.iav; exact rfl; exact rfl; omega) | (apply WO.lda; exact rfl; exact fun _ => rfl; (first | omega | (simp only [List.length_set]; omega) | (simp; omega)); decide; exact rfl; case ia => infer_instance) | (apply WO.pl; exact rfl; exact rfl) | (apply WO.pp; exact rfl; exact rfl)
  refine W.loopI l.length (fun i s => maxF l[0]! (l.drop 1) = maxF (maxF l[0]! ((l.drop 1).take (i - 1))) (l.drop i) ∧ 1 ≤ i ∧ ∃ lo wr, s = ⟨⟨[.vs (ints l) l.length cap, .int .i64 0, .int .i64 (maxF l[0]! ((l.drop 1).take (i - 1))), .int .i64 i], lo, [], []⟩, wr⟩) (i := 1) (fun i s hi ⟨he, h1, lo, wr, hs⟩ => ?_) (fun s ⟨he, h1, lo, wr, hs⟩ => ?_) (by omega) ⟨by simp [maxF], Nat.le_refl _, _, _, rfl⟩
  · subst hs
    have e : (l.drop 1).take (i + 1 - 1) = (l.drop 1).take (i - 1) ++ [l[((i : Int)).toNat]!] := by
      have := take_snoc' (l := l.drop 1) (i := i - 1) (by rw [List.length_drop]; omega)
      rw [show i - 1 + 1 = i + 1 - 1 by omega] at this
      rw [this, getElem!_pos _ (i - 1) (by rw [List.length_drop]; omega), Int.toNat_natCast, getElem!_pos l i hi, List.getElem_drop]
      congr 3; omega
    have e2 : l.drop i = l[((i : Int)).toNat]! :: l.drop (i + 1) := by
      rw [List.drop_eq_getElem_cons hi, Int.toNat_natCast, getElem!_pos l i hi]
    unfold b124_0
    repeat' first | apply W.seq | apply SQn | apply W.region | apply WO.nil | apply W.block | apply W.skip | apply BQn | (apply W.condT; exact rfl) | (apply WO.lss; exact rfl; exact rfl; all_goals first | (intro _; exfalso; omega) | intro _) | (apply WO.add; exact rfl; exact rfl; omega) | (apply WO.iav; exact rfl; exact rfl; omega) | (apply WO.lda; exact rfl; exact fun _ => rfl; (first | omega | (simp only [List.length_set]; omega) | (simp; omega)); decide; exact rfl; case ia => infer_instance) | (apply WO.pl; exact rfl; exact rfl) | (apply WO.pp; exact rfl; exact rfl)
    exact LIn ⟨by rw [he, e, e2, maxF, maxF_snoc], by omega, _, _, by rw [e, maxF_snoc, ← mx_eq]; rfl⟩
  · subst hs
    rw [List.drop_length, maxF] at he
    unfold b124_0
    repeat' first | apply W.seq | apply SQn | apply W.region | apply WO.nil | apply W.ret | apply W.exit | apply SQe | apply BQe | apply LIe | (apply W.condF; exact rfl) | (apply WO.lss; exact rfl; exact rfl; all_goals first | (intro _; exfalso; omega) | intro _) | (apply WO.pl; exact rfl; exact rfl) | (apply WO.pp; exact rfl; exact rfl)
    exact ⟨.inr rfl, rfl, _, rfl, by rw [he]; rfl, rfl⟩
def cfP (p q : Place) : Int := firstNZ [cmpI (min q.rank 1) (min p.rank 1), cmpI p.rank q.rank]
theorem cfP_key {P : List Place} {x y : Int} (hx : 0 ≤ rkOf P x ∧ rkOf P x < 1000000) (hy : 0 ≤ rkOf P y ∧ rkOf P y < 1000000) : cfP P[x.toNat]! P[y.toNat]! < 0 ↔ keyP P y < keyP P x := by
  unfold cfP keyP
  rw [first2]
  show (if cmpI (min (rkOf P y) 1) (min (rkOf P x) 1) ≠ 0 then cmpI (min (rkOf P y) 1) (min (rkOf P x) 1) else cmpI (rkOf P x) (rkOf P y)) < 0 ↔ _
  generalize rkOf P x = a at *
  generalize rkOf P y = b at *
  unfold cmpI
  split <;> split <;> split <;> (repeat' split) <;> omega
set_option maxHeartbeats 1000000 in
theorem w144 (hft : M.FT = FT) (c142 : ∀ x y h, M.ext 142 [.int .i64 x, .int .i64 y] h = some ⟨.int .i64 (cmpI x y), h, []⟩) (c145 : ∀ (l : List Int) v h, Sl inC h v l → l.length < 1000000 → M.ext 145 [v] h = some ⟨.int .i64 (firstNZ l), h, []⟩) (p q : Place) :
    Run M 144 [.agg (placeC p), .agg (placeC q)] [] ⟨.int .i64 (cfP p q), [], []⟩ := by
  have q142 := c142
  have q145 : ∀ a b, M.ext 145 [.sl 2 0 2 1 (some 2)] ([some (.cells (placeC p) 116), some (.cells (placeC q) 116)] ++ [some (.cells [.int .i64 a, .int .i64 b] 3)]) = some ⟨.int .i64 (firstNZ [a, b]), [some (.cells (placeC p) 116), some (.cells (placeC q) 116)] ++ [some (.cells [.int .i64 a, .int .i64 b] 3)], []⟩ := fun a b =>
    c145 [a, b] _ _ (Sl.ofAt (f := inC) (esz := 1) (e := 3) (fun _ => rfl) rfl rfl) (by simp)
  refine run_of_W (by rw [hft]; exact ft144) (by simp) ?_
  unfold b144
  simp only [List.map_cons, List.map_nil, List.getElem?_cons_zero, List.getElem?_cons_succ, List.getElem?_nil, Option.getD_some, Option.getD_none]
  repeat' first | (apply WO.min2 (m := min q.rank 1); exact rfl; exact rfl; omega) | (apply WO.min2 (m := min p.rank 1); exact rfl; exact rfl; omega) | apply W.seq | apply SQn | apply W.region | apply WO.nil | apply W.ret | apply W.draw | apply WD.nil | (apply WD.pure1; exact rfl) | (apply WD.load1; exact rfl; exact rfl; exact rfl) | (apply WD.new1; exact rfl) | (apply WD.cl0; exact rfl; exact rfl; (first | (simp only [List.nil_append, List.cons_append]; exact rfl) | exact rfl); first | exact q142 _ _ _ | exact q145 _ _) | (apply WO.hlv; exact rfl; exact rfl; exact rfl) | (apply WO.hpv; exact rfl; exact rfl; exact rfl) | (apply WO.pl; exact rfl; exact rfl) | (apply WO.pp; exact rfl; exact rfl)
  exact ⟨.inr rfl, rfl, _, rfl, rfl, rfl⟩
def markC (k : Str) (v : Int) (w : Str) : List AV := [.str k, .int .i64 v, .str w]
theorem w89 (hft : M.FT = FT) (st ret : Bool) : Run M 89 [.bool st, .bool ret] [] ⟨.agg (markC sNone 0 (noWhy (!st) ret)), [], []⟩ := by
  refine run_of_W (by rw [hft]; exact ft89) (by simp) ?_
  unfold b89
  simp only [List.map_cons, List.map_nil, List.getElem?_cons_zero, List.getElem?_cons_succ, List.getElem?_nil, Option.getD_some, Option.getD_none]
  cases st <;> cases ret <;> skip
  all_goals
    repeat' first | apply W.seq | apply SQn | apply W.region | apply WO.nil | apply W.ret | apply W.skip | apply SQr | (apply W.condT; exact rfl) | (apply W.condF; exact rfl) | (apply WO.gT; exact rfl) | (apply WO.sT; exact rfl) | (apply WO.pkT; exact rfl; exact rfl) | (apply WO.pkF; exact rfl; exact rfl) | (apply WO.stK; exact rfl; exact rfl; exact ⟨rfl, by first | exact Nat.le_refl _ | decide | (simp [overwrite]), rfl⟩; exact rfl) | (apply WO.hpv; exact rfl; exact rfl; exact rfl) | (apply WO.pl; exact rfl; exact rfl)
    exact ⟨.inr rfl, rfl, _, rfl, rfl, rfl⟩
theorem w79 (hft : M.FT = FT) (idle ret : Bool) : Run M 79 [.bool idle, .bool ret] [] ⟨.agg (markC sNone 0 (noWhy idle ret)), [], []⟩ := by
  refine run_of_W (by rw [hft]; exact ft79) (by simp) ?_
  unfold b79
  simp only [List.map_cons, List.map_nil, List.getElem?_cons_zero, List.getElem?_cons_succ, List.getElem?_nil, Option.getD_some, Option.getD_none]
  cases idle <;> cases ret <;> skip
  all_goals
    repeat' first | apply W.seq | apply SQn | apply W.region | apply WO.nil | apply W.ret | apply W.skip | apply SQr | (apply W.condT; exact rfl) | (apply W.condF; exact rfl) | (apply WO.gT; exact rfl) | (apply WO.sT; exact rfl) | (apply WO.pkT; exact rfl; exact rfl) | (apply WO.pkF; exact rfl; exact rfl) | (apply WO.stK; exact rfl; exact rfl; exact ⟨rfl, by first | exact Nat.le_refl _ | decide | (simp [overwrite]), rfl⟩; exact rfl) | (apply WO.hpv; exact rfl; exact rfl; exact rfl) | (apply WO.pl; exact rfl; exact rfl)
    exact ⟨.inr rfl, rfl, _, rfl, rfl, rfl⟩
end Go.Ab.Ch6

/-
  Own work: chapter 6: places in their order; the ranking by the program.
-/
namespace Go.Ab.Ch6
open Go.Ab.Sort
variable {M : Mach} {cap c1 c2 : Option Nat} {h : Heap} {b : Nat}
theorem arr_map {α β : Type} (f : β → List AV) (g : α → β) : ∀ l : List α, arr f (l.map g) = arr (fun x => f (g x)) l
  | [] => rfl
  | a :: l => by rw [List.map_cons, arr_cons, arr_cons, arr_map f g l]
theorem arr_pf (P : List Place) (S : List Int) : arr (pf P) S = arr placeC (S.map fun i => P[i.toNat]!) := (arr_map placeC (fun i : Int => P[i.toNat]!) S).symm
abbrev placesC (l : List Place) : List AV := arr placeC l
structure CRk (M : Mach) : Prop extends Srp.CSp M where
  n94 : ∀ ars h, M.ext 94 ars h = none
  c144 : ∀ p q h, M.ext 144 [.agg (placeC p), .agg (placeC q)] h = some ⟨.int .i64 (cfP p q), h, []⟩
  c123 : ∀ (ls : List (List Int)) v h, Sl lsC h v ls → ls.length < 1000000 → (∀ x ∈ ls, fineT x) → M.ext 123 [v] h = some ⟨.vs (ints (ranksL ls)) (ranksL ls).length none, h, []⟩
  c124 : ∀ (l : List Int) h, l ≠ [] → l.length < 1000000 → M.ext 124 [.vs (ints l) l.length none] h = some ⟨.int .i64 (maxF l[0]! (l.drop 1)), h, []⟩
  c89 : ∀ st ret h, M.ext 89 [.bool st, .bool ret] h = some ⟨.agg (markC sNone 0 (noWhy (!st) ret)), h, []⟩
theorem s94 (C : CRk M) (hb : b < h.length) (P : List Place) (hP : P.length < 1000000) (hr : ∀ p ∈ P, 0 ≤ p.rank ∧ p.rank ≤ P.length) (cap : Option Nat) :
    ∃ wr, Only b wr ∧ CT M (fn 94) [.sl b 0 P.length 5 cap] (h.put b (some (.cells (placesC P) 116))) ⟨.sl b 0 P.length 5 cap, h.put b (some (.cells (placesC (orderP P)) 116)), wr⟩ := by
  have hok : ∀ i ∈ numsTo P.length, 0 ≤ rkOf P i ∧ rkOf P i < 1000000 := fun i hi => by
    have hb := numsTo_mem.1 hi
    have hm : P[i.toNat]! ∈ P := by rw [getElem!_pos P _ (by omega)]; exact List.getElem_mem _
    have := hr _ hm
    unfold rkOf
    omega
  obtain ⟨S, wr, hw, ⟨g1, g2⟩, hct⟩ := Srp.r143 (PL := P) (cap := cap) (g := .fn (.func 144) [] []) (key := keyP P) (ok := fun i => 0 ≤ rkOf P i ∧ rkOf P i < 1000000) (cf := fun x y => cfP P[x.toNat]! P[y.toNat]!) C.toCSp hb (n := P.length) (by omega)
    (fun x y l' hx hy => CT.ext (C.c144 _ _ _)) (fun x y hx hy => cfP_key hx hy) (l := numsTo P.length) numsTo_length numsTo_lt hok
  rw [arr_pf, nums_map, arr_pf, order_sorted (by omega) hr g1 g2] at hct
  obtain ⟨wr', hw', hrun⟩ := run_putV (M := M) (f := placeC) (h := h) (b := b) (l := P) (e := 116) (g := 94) (ars := [.sl b 0 P.length 5 cap]) (v := .sl b 0 P.length 5 cap) (l' := orderP P) (by rw [C.ft]; exact ft94) (by simp) hb (fun _ => rfl) (by simp [AV.top]; omega) (by
    unfold b94
    simp only [List.map_cons, List.map_nil, List.getElem?_cons_zero, List.getElem?_cons_succ, List.getElem?_nil, Option.getD_some, Option.getD_none]
    repeat' first | apply W.seq | apply SQn | apply W.region | apply WO.nil | apply W.ret | (apply WO.ct; exact rfl; exact rfl; first | exact hct) | (apply WO.pl; exact rfl; exact rfl) | (apply WO.pp; exact rfl; exact rfl)
    exact ⟨.inr rfl, rfl, rfl, hw.app Only.nil, _, rfl, rfl⟩)
  exact ⟨wr', hw', ct_of_run C.n94 hrun⟩
theorem e229 (C : CRk M) (g : AV) (hp : Heap) : CT M (fn 229) [.nilsl, .int .i64 0, .int .i64 0, g] hp ⟨.tup [], hp, []⟩ := by
  refine ct_of_run C.n229 (run_same (by rw [C.ft]; exact ft229) (by simp) ?_)
  unfold b229
  simp only [List.map_cons, List.map_nil, List.getElem?_cons_zero, List.getElem?_cons_succ, List.getElem?_nil, Option.getD_some, Option.getD_none]
  repeat' first | apply W.seq | apply SQn | apply W.region | apply WO.nil | apply W.block | (apply WO.add; exact rfl; exact rfl; omega) | (apply WO.pl; exact rfl; exact rfl) | (apply WO.pp; exact rfl; exact rfl)
  refine W.loop ?_
  unfold b229_1
  repeat' first | apply W.seq | apply SQn | apply W.region | apply WO.nil | apply W.exit | apply SQe | apply BQe | apply LQe | (apply W.condF; exact rfl) | (apply WO.lss; exact rfl; exact rfl; all_goals first | (intro _; exfalso; omega) | intro _) | (apply WO.pl; exact rfl; exact rfl)
  exact ⟨.inl rfl, rfl, rfl, rfl, _, rfl, rfl⟩
theorem e193 (C : CRk M) (g : AV) (hp : Heap) : CT M (fn 193) [.nilsl, .int .i64 0, g] hp ⟨.tup [], hp, []⟩ := by
  have q := e229 C g hp
  refine ct_of_run C.n193 (run_same (by rw [C.ft]; exact ft193) (by simp) ?_)
  unfold b193
  simp only [List.map_cons, List.map_nil, List.getElem?_cons_zero, List.getElem?_cons_succ, List.getElem?_nil, Option.getD_some, Option.getD_none]
  repeat' first | apply W.seq | apply SQn | apply W.region | apply WO.nil | apply W.block | (apply WO.pl; exact rfl; exact rfl) | (apply WO.pp; exact rfl; exact rfl)
  refine W.loop ?_
  unfold b193_0
  repeat' first | apply W.seq | apply SQn | apply W.region | apply WO.nil | apply W.block | apply W.exit | apply SQe | apply BQe | apply LQe | (apply W.condF; exact rfl) | (apply WO.leq; exact rfl; exact rfl; all_goals first | (intro _; exfalso; omega) | intro _) | (apply WO.ct; exact rfl; exact rfl; first | exact q) | (apply WO.pl; exact rfl; exact rfl)
  refine W.loop ?_
  unfold b193_2
  repeat' first | apply W.seq | apply SQn | apply W.region | apply WO.nil | apply W.exit | apply SQe | apply BQe | apply LQe | (apply W.condF; exact rfl) | (apply WO.lss; exact rfl; exact rfl; all_goals first | (intro _; exfalso; omega) | intro _) | (apply WO.pl; exact rfl; exact rfl)
  exact ⟨.inl rfl, rfl, rfl, rfl, _, rfl, rfl⟩
theorem e143 (C : CRk M) (g : AV) (hp : Heap) : CT M (fn 143) [.nilsl, g] hp ⟨.tup [], hp, []⟩ := by
  have q := e193 C g hp
  refine ct_of_run C.n143 (run_same (by rw [C.ft]; exact ft143) (by simp) ?_)
  unfold b143
  simp only [List.map_cons, List.map_nil, List.getElem?_cons_zero, List.getElem?_cons_succ, List.getElem?_nil, Option.getD_some, Option.getD_none]
  repeat' first | apply W.region | apply WO.nil | (apply WO.ct; exact rfl; exact rfl; first | exact q) | (apply WO.pl; exact rfl; exact rfl)
  exact ⟨.inl rfl, rfl, rfl, rfl, _, rfl, rfl⟩
theorem e94 (C : CRk M) (hp : Heap) : CT M (fn 94) [.nilsl] hp ⟨.nilsl, hp, []⟩ := by
  have q := e143 C (.fn (.func 144) [] []) hp
  refine ct_of_run C.n94 (run_same (by rw [C.ft]; exact ft94) (by simp) ?_)
  unfold b94
  simp only [List.map_cons, List.map_nil, List.getElem?_cons_zero, List.getElem?_cons_succ, List.getElem?_nil, Option.getD_some, Option.getD_none]
  repeat' first | apply W.seq | apply SQn | apply W.region | apply WO.nil | apply W.ret | (apply WO.ct; exact rfl; exact rfl; first | exact q) | (apply WO.pl; exact rfl; exact rfl) | (apply WO.pp; exact rfl; exact rfl)
  exact ⟨.inr rfl, rfl, rfl, rfl, _, rfl, rfl⟩
theorem order_len {l : List Row} : (orderP (placesL l)).length = (placesL l).length := by
  rw [← orderI_map, List.length_map, ← order_perm places_rank, numsTo_length]
theorem lists_take {l : List Row} {i : Nat} (h : i < l.length) : (l.take (i + 1)).map Row.tr = (l.take i).map Row.tr ++ [(l[i]!).tr] := by
  rw [take_snoc' h]; simp
theorem ranks_get {l : List Row} {i : Nat} (h : i < l.length) : (ranksL (l.map Row.tr))[i]! = rankOf (l.map Row.tr) (l[i]!).tr := by
  rw [getElem!_pos _ i (by rw [ranksL_len, List.length_map]; exact h), getElem!_pos l i h]; simp [ranksL]
set_option maxHeartbeats 2000000 in
theorem w71 (C : CRk M) (l : List Row) (hl : l.length < 100000) (hL : ∀ r ∈ l, fineT r.tr) :
    ∃ v hh, FrN hh v (.vs (placesC (orderP (placesL l))) (orderP (placesL l)).length none) ∧ Run M 71 [.vs (rowsC l) l.length cap] [] ⟨v, hh, []⟩ := by
  refine run_ofE (P := fun v hh => FrN hh v (.vs (placesC (orderP (placesL l))) (orderP (placesL l)).length none)) (by rw [C.ft]; exact ft71) (by simp) ?_
  unfold b71
  simp only [List.map_cons, List.map_nil, List.getElem?_cons_zero, List.getElem?_cons_succ, List.getElem?_nil, Option.getD_some, Option.getD_none]
  repeat' first | apply W.seq | apply SQn | apply W.region | apply WO.nil | apply W.block | (apply WO.pp; exact rfl; exact rfl)
  refine W.loopI l.length (fun i s => ∃ o a3 lo K wr, s = ⟨⟨[.vs (rowsC l) l.length cap, .nilsl, o, a3, undefA, undefA, undefA, undefA, .vs (rowsC l) l.length cap, .int .i64 l.length, .int .i64 i, undefA, undefA, undefA], lo, K, []⟩, wr⟩ ∧ OutE lsC 1 25 K o ((l.take i).map Row.tr) []) (fun i s hi ⟨o, a3, lo, K, wr, hs, ho⟩ => ?_) (fun s ⟨o, a3, lo, K, wr, hs, ho⟩ => ?_) (Nat.zero_le _) ⟨_, _, _, _, _, rfl, .ofNil⟩
  · subst hs
    have e := lists_take hi
    rw [show l[i]! = l[((i : Int)).toNat]! from rfl] at e
    unfold b71_0
    repeat' first | apply W.seq | apply SQn | apply W.region | apply WO.nil | apply W.block | apply W.skip | (apply W.condT; exact rfl) | (apply WO.lss; exact rfl; exact rfl; all_goals first | (intro _; exfalso; omega) | intro _) | (apply WO.stK; exact rfl; exact rfl; exact ⟨rfl, by first | exact Nat.le_refl _ | decide | (simp [overwrite]), rfl⟩; exact rfl) | (apply WO.ldK; exact rfl; (first | exact at_new | assumption | exact at_old at_new | exact at_old (at_old at_new) | exact at_old (at_old (at_old at_new)) | exact at_put (by simp) | ((repeat apply at_old); assumption)); exact rfl) | (apply WO.iav; exact rfl; exact rfl; omega) | (apply WO.lda; exact rfl; exact fun _ => rfl; (first | omega | (simp only [List.length_set]; omega) | (simp; omega)); decide; exact rfl; case ia => infer_instance) | (apply WO.hlv; exact rfl; exact rfl; exact rfl) | (apply WO.hpv; exact rfl; exact rfl; exact rfl) | (apply WO.pl; exact rfl; exact rfl)
    refine OutE.app (f := lsC) (m := [(l[((i : Int)).toNat]!).tr]) (S := []) (fun _ => rfl) (fun _ => rfl) (by decide) ((ho.grow [_]).grow [_]) (by simp) rfl rfl (Sl.ofAt (f := lsC) (esz := 1) (l := [(l[((i : Int)).toNat]!).tr]) (e := 25) (fun _ => rfl) at_new rfl) (by rw [List.length_map, List.length_take]; unfold roomLimit; simp; omega) (fun H w' o' ho' hk hlen => ?_)
    repeat' first | apply SQn | apply W.region | apply WO.nil | apply BQn | (apply WO.add; exact rfl; exact rfl; omega) | (apply WO.pp; exact rfl; exact rfl)
    exact LIn ⟨_, _, _, _, _, rfl, by rw [e]; exact ho'⟩
  · subst hs
    rw [List.take_length] at ho
    have q123 := C.c123 (l.map Row.tr) o K (ho.sl (fun _ => rfl)) (by rw [List.length_map]; omega) (fun x hx => by
      rw [List.mem_map] at hx
      obtain ⟨r, hr, rfl⟩ := hx
      exact hL r hr)
    obtain ⟨own, hown⟩ : ∃ own, own = ranksL (l.map Row.tr) := ⟨_, rfl⟩
    have hol : own.length = l.length := by rw [hown, ranksL_len, List.length_map]
    rw [← hown] at q123
    unfold b71_0
    repeat' first | apply W.seq | apply SQn | apply W.region | apply WO.nil | apply W.block | apply W.exit | apply SQe | apply BQe | apply LIe | (apply W.condF; exact rfl) | (apply WO.lss; exact rfl; exact rfl; all_goals first | (intro _; exfalso; omega) | intro _) | (apply WO.clp; exact rfl; exact rfl; first | exact q123) | (apply WO.pl; exact rfl; exact rfl) | (apply WO.pp; exact rfl; exact rfl)
    refine W.loopI own.length (fun i s => ∃ q a5 a6 a7 lo K wr, s = ⟨⟨[.vs (rowsC l) l.length cap, .nilsl, o, a3, q, a5, a6, a7, .vs (rowsC l) l.length cap, .int .i64 l.length, .int .i64 l.length, .vs (ints own) own.length none, .int .i64 own.length, .int .i64 i], lo, K, []⟩, wr⟩ ∧ OutE placeC 5 116 K q ((placesL l).take i) []) (fun i s hi ⟨q, a5, a6, a7, lo, K, wr, hs, hq⟩ => ?_) (fun s ⟨q, a5, a6, a7, lo, K, wr, hs, hq⟩ => ?_) (Nat.zero_le _) ⟨_, _, _, _, _, _, _, rfl, .ofNil⟩
    · subst hs
      have hil : i < l.length := by omega
      have hpl : i < (placesL l).length := by rw [places_len]; exact hil
      have hm : l[((i : Int)).toNat]! ∈ l := by rw [Int.toNat_natCast, getElem!_pos l i hil]; exact List.getElem_mem hil
      have e := take_snoc' hpl
      rw [placesL_get hil, show l[i]! = l[((i : Int)).toNat]! from rfl] at e
      have er : own[((i : Int)).toNat]! = rankOf (l.map Row.tr) (l[((i : Int)).toNat]!).tr := by rw [hown]; exact ranks_get hil
      unfold b71_1
      by_cases hr : 0 < rankOf (l.map Row.tr) (l[((i : Int)).toNat]!).tr
      · obtain ⟨e1, e2⟩ := placeOf_max hr
        have hlen : 0 < (l[((i : Int)).toNat]!).tr.length := List.length_pos_iff.2 e2
        have q89 := fun h => C.c89 true (l[((i : Int)).toNat]!).ret h
        have q124 := fun h => C.c124 (l[((i : Int)).toNat]!).tr h e2 (by have := (hL _ hm).1; omega)
        rw [← er] at hr
        repeat' first | (apply WD.cl0; exact rfl; exact rfl; (first | (simp only [List.nil_append, List.cons_append]; exact rfl) | exact rfl); first | exact q89 _) | (apply WO.stKj; exact rfl; exact rfl; exact ⟨rfl, by simp [overwrite, markC], rfl⟩; exact rfl) | apply W.seq | apply SQn | apply W.region | apply WO.nil | apply W.block | apply W.skip | apply W.draw | apply WD.nil | (apply WD.pure1; exact rfl) | (apply WD.load1; exact rfl; exact rfl; exact rfl) | (apply WD.store1; exact rfl; exact rfl; exact rfl) | (apply WD.new1; exact rfl) | (apply W.condT; exact rfl) | (apply WO.lss; exact rfl; exact rfl; all_goals first | (intro _; exfalso; omega) | intro _) | (apply WO.gtr; exact rfl; exact rfl; all_goals first | (intro _; exfalso; omega) | intro _) | (apply WO.stK; exact rfl; exact rfl; exact ⟨rfl, by first | exact Nat.le_refl _ | decide | (simp [overwrite]), rfl⟩; exact rfl) | (apply WO.ldK; exact rfl; (first | exact at_new | assumption | exact at_old at_new | exact at_old (at_old at_new) | exact at_old (at_old (at_old at_new)) | exact at_put (by simp) | ((repeat apply at_old); assumption)); exact rfl) | (apply WO.cll; exact rfl; exact rfl; first | exact q124 _) | (apply WO.iav; exact rfl; exact rfl; omega) | (apply WO.lda; exact rfl; exact fun _ => rfl; (first | omega | (simp only [List.length_set]; omega) | (simp; omega)); decide; exact rfl; case ia => infer_instance) | (apply WO.ldf; exact rfl; exact fun _ => rfl; (first | omega | (simp only [List.length_set]; omega) | (simp; omega)); decide; exact rfl; case ia => infer_instance) | (apply WO.hlv; exact rfl; exact rfl; exact rfl) | (apply WO.hpv; exact rfl; exact rfl; exact rfl) | (apply WO.pl; exact rfl; exact rfl) | (apply WO.pp; exact rfl; exact rfl)
        rw [← er] at e1
        refine OutE.app (f := placeC) (m := [⟨(l[((i : Int)).toNat]!).who, own[((i : Int)).toNat]!, sLength, maxF ((l[((i : Int)).toNat]!).tr)[0]! ((l[((i : Int)).toNat]!).tr.drop 1), []⟩]) (S := []) (fun _ => rfl) (fun _ => rfl) (by decide) ((hq.grow [_]).grow [_]) (by simp) rfl rfl (Sl.ofAt (f := placeC) (esz := 5) (l := [⟨(l[((i : Int)).toNat]!).who, own[((i : Int)).toNat]!, sLength, maxF ((l[((i : Int)).toNat]!).tr)[0]! ((l[((i : Int)).toNat]!).tr.drop 1), []⟩]) (e := 116) (fun _ => rfl) at_new rfl) (by rw [List.length_take]; unfold roomLimit; simp; omega) (fun H w' o' ho' hk hlen => ?_)
        repeat' first | apply SQn | apply W.region | apply WO.nil | apply BQn | (apply WO.add; exact rfl; exact rfl; omega) | (apply WO.pp; exact rfl; exact rfl)
        exact LIn ⟨_, _, _, _, _, _, _, rfl, by rw [e, e1]; exact ho'⟩
      · have e1 := placeOf_none hr
        rw [← er] at e1 hr
        by_cases hlen : (l[((i : Int)).toNat]!).tr.length = 0
        · have q89 := fun h => C.c89 false (l[((i : Int)).toNat]!).ret h
          rw [decide_eq_true hlen] at e1
          repeat' first | (apply WD.cl0; exact rfl; exact rfl; (first | (simp only [List.nil_append, List.cons_append]; exact rfl) | exact rfl); first | exact q89 _) | apply W.seq | apply SQn | apply W.region | apply WO.nil | apply W.block | apply W.skip | apply W.draw | apply WD.nil | (apply WD.pure1; exact rfl) | (apply WD.load1; exact rfl; exact rfl; exact rfl) | (apply WD.store1; exact rfl; exact rfl; exact rfl) | (apply WD.new1; exact rfl) | (apply W.condT; exact rfl) | (apply W.condF; exact rfl) | (apply WO.lss; exact rfl; exact rfl; all_goals first | (intro _; exfalso; omega) | intro _) | (apply WO.gtr; exact rfl; exact rfl; all_goals first | (intro _; exfalso; omega) | intro _) | (apply WO.stK; exact rfl; exact rfl; exact ⟨rfl, by first | exact Nat.le_refl _ | decide | (simp [overwrite]), rfl⟩; exact rfl) | (apply WO.ldK; exact rfl; (first | exact at_new | assumption | exact at_old at_new | exact at_old (at_old at_new) | exact at_old (at_old (at_old at_new)) | exact at_put (by simp) | ((repeat apply at_old); assumption)); exact rfl) | (apply WO.iav; exact rfl; exact rfl; omega) | (apply WO.lda; exact rfl; exact fun _ => rfl; (first | omega | (simp only [List.length_set]; omega) | (simp; omega)); decide; exact rfl; case ia => infer_instance) | (apply WO.ldf; exact rfl; exact fun _ => rfl; (first | omega | (simp only [List.length_set]; omega) | (simp; omega)); decide; exact rfl; case ia => infer_instance) | (apply WO.hlv; exact rfl; exact rfl; exact rfl) | (apply WO.hpv; exact rfl; exact rfl; exact rfl) | (apply WO.pl; exact rfl; exact rfl) | (apply WO.pp; exact rfl; exact rfl)
          refine OutE.app (f := placeC) (m := [⟨(l[((i : Int)).toNat]!).who, own[((i : Int)).toNat]!, sNone, 0, noWhy true (l[((i : Int)).toNat]!).ret⟩]) (S := []) (fun _ => rfl) (fun _ => rfl) (by decide) ((hq.grow [_]).grow [_]) (by simp) rfl rfl (Sl.ofAt (f := placeC) (esz := 5) (l := [⟨(l[((i : Int)).toNat]!).who, own[((i : Int)).toNat]!, sNone, 0, noWhy true (l[((i : Int)).toNat]!).ret⟩]) (e := 116) (fun _ => rfl) at_new rfl) (by rw [List.length_take]; unfold roomLimit; simp; omega) (fun H w' o' ho' hk hlen => ?_)
          repeat' first | apply SQn | apply W.region | apply WO.nil | apply BQn | (apply WO.add; exact rfl; exact rfl; omega) | (apply WO.pp; exact rfl; exact rfl)
          exact LIn ⟨_, _, _, _, _, _, _, rfl, by rw [e, e1]; exact ho'⟩
        · have q89 := fun h => C.c89 true (l[((i : Int)).toNat]!).ret h
          rw [decide_eq_false hlen] at e1
          repeat' first | (apply WD.cl0; exact rfl; exact rfl; (first | (simp only [List.nil_append, List.cons_append]; exact rfl) | exact rfl); first | exact q89 _) | apply W.seq | apply SQn | apply W.region | apply WO.nil | apply W.block | apply W.skip | apply W.draw | apply WD.nil | (apply WD.pure1; exact rfl) | (apply WD.load1; exact rfl; exact rfl; exact rfl) | (apply WD.store1; exact rfl; exact rfl; exact rfl) | (apply WD.new1; exact rfl) | (apply W.condT; exact rfl) | (apply W.condF; exact rfl) | (apply WO.lss; exact rfl; exact rfl; all_goals first | (intro _; exfalso; omega) | intro _) | (apply WO.gtr; exact rfl; exact rfl; all_goals first | (intro _; exfalso; omega) | intro _) | (apply WO.stK; exact rfl; exact rfl; exact ⟨rfl, by first | exact Nat.le_refl _ | decide | (simp [overwrite]), rfl⟩; exact rfl) | (apply WO.ldK; exact rfl; (first | exact at_new | assumption | exact at_old at_new | exact at_old (at_old at_new) | exact at_old (at_old (at_old at_new)) | exact at_put (by simp) | ((repeat apply at_old); assumption)); exact rfl) | (apply WO.iav; exact rfl; exact rfl; omega) | (apply WO.lda; exact rfl; exact fun _ => rfl; (first | omega | (simp only [List.length_set]; omega) | (simp; omega)); decide; exact rfl; case ia => infer_instance) | (apply WO.ldf; exact rfl; exact fun _ => rfl; (first | omega | (simp only [List.length_set]; omega) | (simp; omega)); decide; exact rfl; case ia => infer_instance) | (apply WO.hlv; exact rfl; exact rfl; exact rfl) | (apply WO.hpv; exact rfl; exact rfl; exact rfl) | (apply WO.pl; exact rfl; exact rfl) | (apply WO.pp; exact rfl; exact rfl)
          refine OutE.app (f := placeC) (m := [⟨(l[((i : Int)).toNat]!).who, own[((i : Int)).toNat]!, sNone, 0, noWhy false (l[((i : Int)).toNat]!).ret⟩]) (S := []) (fun _ => rfl) (fun _ => rfl) (by decide) ((hq.grow [_]).grow [_]) (by simp) rfl rfl (Sl.ofAt (f := placeC) (esz := 5) (l := [⟨(l[((i : Int)).toNat]!).who, own[((i : Int)).toNat]!, sNone, 0, noWhy false (l[((i : Int)).toNat]!).ret⟩]) (e := 116) (fun _ => rfl) at_new rfl) (by rw [List.length_take]; unfold roomLimit; simp; omega) (fun H w' o' ho' hk hlen => ?_)
          repeat' first | apply SQn | apply W.region | apply WO.nil | apply BQn | (apply WO.add; exact rfl; exact rfl; omega) | (apply WO.pp; exact rfl; exact rfl)
          exact LIn ⟨_, _, _, _, _, _, _, rfl, by rw [e, e1]; exact ho'⟩
    · subst hs
      rw [hol, ← places_len l, List.take_length] at hq
      unfold b71_1
      rcases hq with ⟨hq1, rfl⟩ | ⟨c, cp, hc, rfl, hat, hcap⟩
      · have q94 := e94 C K
        repeat' first | apply W.seq | apply SQn | apply W.region | apply WO.nil | apply W.ret | apply W.exit | apply SQe | apply BQe | apply LIe | (apply W.condF; exact rfl) | (apply WO.lss; exact rfl; exact rfl; all_goals first | (intro _; exfalso; omega) | intro _) | (apply WO.ct; exact rfl; exact rfl; first | exact q94) | (apply WO.pl; exact rfl; exact rfl) | (apply WO.pp; exact rfl; exact rfl)
        refine ⟨.inr rfl, rfl, _, rfl, ?_⟩
        rw [hq1]
        exact .nil
      · obtain ⟨wr', hw', hct⟩ := s94 C (at_lt hat) (placesL l) (by rw [places_len]; omega) places_rank cp
        rw [put_self (o := .cells (placesC (placesL l)) 116) hat] at hct
        repeat' first | apply W.seq | apply SQn | apply W.region | apply WO.nil | apply W.ret | apply W.exit | apply SQe | apply BQe | apply LIe | (apply W.condF; exact rfl) | (apply WO.lss; exact rfl; exact rfl; all_goals first | (intro _; exfalso; omega) | intro _) | (apply WO.ct; exact rfl; exact rfl; first | exact hct) | (apply WO.pl; exact rfl; exact rfl) | (apply WO.pp; exact rfl; exact rfl)
        refine ⟨.inr rfl, rfl, _, rfl, ?_⟩
        have hb2 : Heap.at (K.put c (some (.cells (placesC (orderP (placesL l))) 116))) c = some (.cells (placesC (orderP (placesL l))) 116) := at_put (at_lt hat)
        rw [← order_len (l := l)]
        refine ⟨[c], frz_cells (f := placeC) (esz := 5) (e := 116) (fun _ => rfl) (fun _ => rfl) hb2 rfl, rfl, fun b l' e hb hl => ?_⟩
        rw [List.mem_singleton.1 hb] at hl
        have hl2 : Heap.at (K.put c (some (.cells (placesC (orderP (placesL l))) 116))) c = some (.cells l' e) := hl
        rw [hb2] at hl2
        cases hl2
        exact novL_arr (fun _ => rfl) _
end Go.Ab.Ch6

/-
  Own work: chapter 6: the ranking by the reference.
-/
namespace Go.Ab.Ch6
open Go.Ab.Sort
variable {M : Mach} {cap c1 c2 : Option Nat}
theorem with_take {P : List Place} {r : Int} {i : Nat} (h : i < P.length) : withRank (P.take (i + 1)) r = withRank (P.take i) r ++ if (P[i]!).rank = r then [P[i]!] else [] := by
  rw [withRank, take_snoc' h, List.filter_append, List.filter_cons]
  congr 1
  by_cases hc : (P[i]!).rank = r
  · rw [if_pos (by simpa using hc), if_pos hc]; rfl
  · rw [if_neg (by simpa using hc), if_neg hc]; rfl
theorem with_len {P : List Place} {r : Int} : (withRank P r).length ≤ P.length := List.length_filter_le _ _
theorem ordPR_len {P : List Place} : ∀ k, (ordPR P k).length ≤ k * P.length
  | 0 => by simp [ordPR]
  | k + 1 => by
    rw [ordPR, List.length_append, Nat.succ_mul]
    have := ordPR_len (P := P) k
    have := with_len (P := P) (r := (k + 1 : Nat))
    omega
theorem grow_room {P : List Place} {k i L : Nat} {r : Int} (big : 1000000000000 ≤ L) (hr : ((ordPR P k).length + i + 1) * 64 ≤ 1000000000000) : ((ordPR P k ++ withRank (P.take i) r).length + 1) * 64 ≤ L := by
  have hw : (withRank (P.take i) r).length ≤ i := Nat.le_trans with_len (by rw [List.length_take]; exact Nat.min_le_left _ _)
  rw [List.length_append]
  exact Nat.le_trans (Nat.mul_le_mul_right _ (Nat.add_le_add_right (Nat.add_le_add_left hw _) 1)) (Nat.le_trans hr big)
set_option maxHeartbeats 1000000 in
theorem w80 (hft : M.FT = FT) (P : List Place) (hP : P.length < 100000) : ∃ v hh, FrN hh v (.vs (placesC (orderP P)) (orderP P).length none) ∧ Run M 80 [.vs (placesC P) P.length cap] [] ⟨v, hh, []⟩ := by
  have room : ∀ k n : Nat, k ≤ P.length → n ≤ P.length → ((ordPR P k).length + n + 1) * 64 ≤ 1000000000000 := fun k n hk hn => by
    have h1 := ordPR_len (P := P) k
    have h2 : k * P.length ≤ 100000 * 100000 := Nat.mul_le_mul (by omega) (by omega)
    omega
  have big : 1000000000000 ≤ roomLimit := by unfold roomLimit; omega
  refine run_ofE (P := fun v hh => FrN hh v (.vs (placesC (orderP P)) (orderP P).length none)) (by rw [hft]; exact ft80) (by simp) ?_
  unfold b80
  simp only [List.map_cons, List.map_nil, List.getElem?_cons_zero, List.getElem?_cons_succ, List.getElem?_nil, Option.getD_some, Option.getD_none]
  repeat' first | apply W.seq | apply SQn | apply W.region | apply WO.nil | apply W.block | (apply WO.pp; exact rfl; exact rfl)
  refine W.loopI P.length (fun k s => ∃ o a4 lo K wr, s = ⟨⟨[.vs (placesC P) P.length cap, .nilsl, o, .int .i64 ((k + 1 : Nat) : Int), a4, undefA], lo, K, []⟩, wr⟩ ∧ OutE placeC 5 74 K o (ordPR P k) []) (fun k s hk ⟨o, a4, lo, K, wr, hs, ho⟩ => ?_) (fun s ⟨o, a4, lo, K, wr, hs, ho⟩ => ?_) (Nat.zero_le _) ⟨_, _, _, _, _, rfl, .ofNil⟩
  · subst hs
    unfold b80_1
    repeat' first | apply W.seq | apply SQn | apply W.region | apply WO.nil | apply W.block | apply W.skip | (apply W.condT; exact rfl) | (apply WO.leq; exact rfl; exact rfl; all_goals first | (intro _; exfalso; omega) | intro _) | (apply WO.pl; exact rfl; exact rfl) | (apply WO.pp; exact rfl; exact rfl)
    refine W.loopI P.length (fun i s => ∃ o lo K wr, s = ⟨⟨[.vs (placesC P) P.length cap, .nilsl, o, .int .i64 ((k + 1 : Nat) : Int), .int .i64 i, undefA], lo, K, []⟩, wr⟩ ∧ OutE placeC 5 74 K o (ordPR P k ++ withRank (P.take i) ((k + 1 : Nat) : Int)) []) (fun i s hi ⟨o, lo, K, wr, hs, ho⟩ => ?_) (fun s ⟨o, lo, K, wr, hs, ho⟩ => ?_) (Nat.zero_le _) ⟨_, _, _, _, rfl, by simpa [withRank] using ho⟩
    · subst hs
      have e := with_take (r := ((k + 1 : Nat) : Int)) hi
      rw [show P[i]! = P[((i : Int)).toNat]! from rfl] at e
      have hn := grow_room (P := P) (k := k) (r := ((k + 1 : Nat) : Int)) (i := i) big (room k i (by omega) (by omega))
      unfold b80_0
      by_cases hr : (P[((i : Int)).toNat]!).rank = ((k + 1 : Nat) : Int)
      · rw [if_pos hr] at e
        repeat' first | apply W.seq | apply SQn | apply W.region | apply WO.nil | apply W.block | apply W.skip | (apply W.condT; exact rfl) | (apply WO.lss; exact rfl; exact rfl; all_goals first | (intro _; exfalso; omega) | intro _) | (apply WO.eql; exact rfl; exact rfl; all_goals first | (intro _; exfalso; omega) | intro _) | (apply WO.iav; exact rfl; exact rfl; omega) | (apply WO.lda; exact rfl; exact fun _ => rfl; (first | omega | (simp only [List.length_set]; omega) | (simp; omega)); decide; exact rfl; case ia => infer_instance) | (apply WO.ldf; exact rfl; exact fun _ => rfl; (first | omega | (simp only [List.length_set]; omega) | (simp; omega)); decide; exact rfl; case ia => infer_instance) | (apply WO.hlv; exact rfl; exact rfl; exact rfl) | (apply WO.pl; exact rfl; exact rfl)
        generalize P[((i : Int)).toNat]! = x at *
        refine OutE.app (f := placeC) (m := [x]) (S := []) (fun _ => rfl) (fun _ => rfl) (by decide) (ho.grow [_]) (by simp) rfl rfl (Sl.ofAt (f := placeC) (esz := 5) (l := [x]) (e := 74) (fun _ => rfl) at_new rfl) hn (fun H w' o' ho' hk hlen => ?_)
        repeat' first | apply SQn | apply W.region | apply WO.nil | apply BQn | (apply WO.add; exact rfl; exact rfl; omega) | (apply WO.pl; exact rfl; exact rfl) | (apply WO.pp; exact rfl; exact rfl)
        exact LIn ⟨_, _, _, _, rfl, by rw [e, ← List.append_assoc]; exact ho'⟩
      · rw [if_neg hr, List.append_nil] at e
        repeat' first | apply W.seq | apply SQn | apply W.region | apply WO.nil | apply W.block | apply W.skip | apply BQn | (apply W.condT; exact rfl) | (apply W.condF; exact rfl) | (apply WO.lss; exact rfl; exact rfl; all_goals first | (intro _; exfalso; omega) | intro _) | (apply WO.eql; exact rfl; exact rfl; all_goals first | (intro _; exfalso; omega) | intro _) | (apply WO.add; exact rfl; exact rfl; omega) | (apply WO.iav; exact rfl; exact rfl; omega) | (apply WO.ldf; exact rfl; exact fun _ => rfl; (first | omega | (simp only [List.length_set]; omega) | (simp; omega)); decide; exact rfl; case ia => infer_instance) | (apply WO.pl; exact rfl; exact rfl) | (apply WO.pp; exact rfl; exact rfl)
        exact LIn ⟨_, _, _, _, rfl, by rw [e]; exact ho⟩
    · subst hs
      rw [List.take_length] at ho
      unfold b80_0
      repeat' first | apply W.seq | apply SQn | apply W.region | apply WO.nil | apply W.exit | apply SQe | apply BQn | apply BQe | apply LIe | (apply W.condF; exact rfl) | (apply WO.lss; exact rfl; exact rfl; all_goals first | (intro _; exfalso; omega) | intro _) | (apply WO.add; exact rfl; exact rfl; omega) | (apply WO.pl; exact rfl; exact rfl) | (apply WO.pp; exact rfl; exact rfl)
      exact LIn ⟨_, _, _, _, _, rfl, ho⟩
  · subst hs
    unfold b80_1
    repeat' first | apply W.seq | apply SQn | apply W.region | apply WO.nil | apply W.block | apply W.exit | apply SQe | apply BQe | apply LIe | (apply W.condF; exact rfl) | (apply WO.leq; exact rfl; exact rfl; all_goals first | (intro _; exfalso; omega) | intro _) | (apply WO.pl; exact rfl; exact rfl) | (apply WO.pp; exact rfl; exact rfl)
    refine W.loopI P.length (fun i s => ∃ o lo K wr, s = ⟨⟨[.vs (placesC P) P.length cap, .nilsl, o, .int .i64 ((P.length + 1 : Nat) : Int), a4, .int .i64 i], lo, K, []⟩, wr⟩ ∧ OutE placeC 5 74 K o (ordPR P P.length ++ withRank (P.take i) 0) []) (fun i s hi ⟨o, lo, K, wr, hs, ho⟩ => ?_) (fun s ⟨o, lo, K, wr, hs, ho⟩ => ?_) (Nat.zero_le _) ⟨_, _, _, _, rfl, by simpa [withRank] using ho⟩
    · subst hs
      have e := with_take (r := 0) hi
      rw [show P[i]! = P[((i : Int)).toNat]! from rfl] at e
      have hn := grow_room (P := P) (k := P.length) (r := 0) (i := i) big (room P.length i (by omega) (by omega))
      unfold b80_2
      by_cases hr : (P[((i : Int)).toNat]!).rank = 0
      · rw [if_pos hr] at e
        repeat' first | apply W.seq | apply SQn | apply W.region | apply WO.nil | apply W.block | apply W.skip | (apply W.condT; exact rfl) | (apply WO.lss; exact rfl; exact rfl; all_goals first | (intro _; exfalso; omega) | intro _) | (apply WO.eql; exact rfl; exact rfl; all_goals first | (intro _; exfalso; omega) | intro _) | (apply WO.iav; exact rfl; exact rfl; omega) | (apply WO.lda; exact rfl; exact fun _ => rfl; (first | omega | (simp only [List.length_set]; omega) | (simp; omega)); decide; exact rfl; case ia => infer_instance) | (apply WO.ldf; exact rfl; exact fun _ => rfl; (first | omega | (simp only [List.length_set]; omega) | (simp; omega)); decide; exact rfl; case ia => infer_instance) | (apply WO.hlv; exact rfl; exact rfl; exact rfl) | (apply WO.pl; exact rfl; exact rfl)
        generalize P[((i : Int)).toNat]! = x at *
        refine OutE.app (f := placeC) (m := [x]) (S := []) (fun _ => rfl) (fun _ => rfl) (by decide) (ho.grow [_]) (by simp) rfl rfl (Sl.ofAt (f := placeC) (esz := 5) (l := [x]) (e := 74) (fun _ => rfl) at_new rfl) hn (fun H w' o' ho' hk hlen => ?_)
        repeat' first | apply SQn | apply W.region | apply WO.nil | apply BQn | (apply WO.add; exact rfl; exact rfl; omega) | (apply WO.pl; exact rfl; exact rfl) | (apply WO.pp; exact rfl; exact rfl)
        exact LIn ⟨_, _, _, _, rfl, by rw [e, ← List.append_assoc]; exact ho'⟩
      · rw [if_neg hr, List.append_nil] at e
        repeat' first | apply W.seq | apply SQn | apply W.region | apply WO.nil | apply W.block | apply W.skip | apply BQn | (apply W.condT; exact rfl) | (apply W.condF; exact rfl) | (apply WO.lss; exact rfl; exact rfl; all_goals first | (intro _; exfalso; omega) | intro _) | (apply WO.eql; exact rfl; exact rfl; all_goals first | (intro _; exfalso; omega) | intro _) | (apply WO.add; exact rfl; exact rfl; omega) | (apply WO.iav; exact rfl; exact rfl; omega) | (apply WO.ldf; exact rfl; exact fun _ => rfl; (first | omega | (simp only [List.length_set]; omega) | (simp; omega)); decide; exact rfl; case ia => infer_instance) | (apply WO.pl; exact rfl; exact rfl) | (apply WO.pp; exact rfl; exact rfl)
        exact LIn ⟨_, _, _, _, rfl, by rw [e]; exact ho⟩
    · subst hs
      rw [List.take_length] at ho
      unfold b80_2
      repeat' first | apply W.seq | apply SQn | apply W.region | apply WO.nil | apply W.ret | apply W.exit | apply SQe | apply BQe | apply LIe | (apply W.condF; exact rfl) | (apply WO.lss; exact rfl; exact rfl; all_goals first | (intro _; exfalso; omega) | intro _) | (apply WO.pl; exact rfl; exact rfl) | (apply WO.pp; exact rfl; exact rfl)
      exact ⟨.inr rfl, rfl, _, rfl, ho.finN (fun _ => rfl) (fun _ => rfl) (fun _ => rfl)⟩
set_option maxHeartbeats 1000000 in
theorem w28 (hft : M.FT = FT) (c77 : ∀ (l : List Row) v h, Sl rowC h v l → l.length < 1000000 → (∀ r ∈ l, r.tr.length < 1000000) → M.ext 77 [v] h = some ⟨.vs (ints (ranksL (l.map Row.tr))) l.length none, h, []⟩)
    (c78 : ∀ (r : Row) h, r.tr.length < 1000000 → M.ext 78 [.agg (rowC r)] h = some ⟨.vs (ints (serL r.tr)) (serL r.tr).length none, h, []⟩)
    (c79 : ∀ idle ret h, M.ext 79 [.bool idle, .bool ret] h = some ⟨.agg (markC sNone 0 (noWhy idle ret)), h, []⟩)
    (c80 : ∀ (P : List Place) v h, Sl placeC h v P → P.length < 100000 → M.ext 80 [v] h = some ⟨.vs (placesC (orderP P)) (orderP P).length none, h, []⟩)
    (l : List Row) (hl : l.length < 100000) (hL : ∀ r ∈ l, r.tr.length < 1000000) : ∃ v hh, (∃ B, Fr hh B v (.vs (placesC (orderP (placesL l))) (orderP (placesL l)).length none)) ∧ Run M 28 [.vs (rowsC l) l.length cap] [] ⟨v, hh, []⟩ := by
  have q77 := fun h => c77 l (.vs (rowsC l) l.length cap) h .ofVs (by omega) hL
  obtain ⟨own, hown⟩ : ∃ own, own = ranksL (l.map Row.tr) := ⟨_, rfl⟩
  have hol : own.length = l.length := by rw [hown, ranksL_len, List.length_map]
  rw [← hown] at q77
  refine run_ofE (P := fun v hh => ∃ B, Fr hh B v (.vs (placesC (orderP (placesL l))) (orderP (placesL l)).length none)) (by rw [hft]; exact ft28) (by simp) ?_
  unfold b28
  simp only [List.map_cons, List.map_nil, List.getElem?_cons_zero, List.getElem?_cons_succ, List.getElem?_nil, Option.getD_some, Option.getD_none]
  repeat' first | apply W.seq | apply SQn | apply W.region | apply WO.nil | apply W.block | (apply WO.cll; exact rfl; exact rfl; first | exact q77 _) | (apply WO.pl; exact rfl; exact rfl) | (apply WO.pp; exact rfl; exact rfl)
  refine W.loopI l.length (fun i s => ∃ o a5 a6 lo K wr, s = ⟨⟨[.vs (rowsC l) l.length cap, .nilsl, .vs (ints own) l.length none, o, .int .i64 i, a5, a6], lo, K, []⟩, wr⟩ ∧ OutE placeC 5 74 K o ((placesL l).take i) []) (fun i s hi ⟨o, a5, a6, lo, K, wr, hs, ho⟩ => ?_) (fun s ⟨o, a5, a6, lo, K, wr, hs, ho⟩ => ?_) (Nat.zero_le _) ⟨_, _, _, _, _, _, rfl, .ofNil⟩
  · subst hs
    have hpl : i < (placesL l).length := by rw [places_len]; exact hi
    have hm : l[((i : Int)).toNat]! ∈ l := by rw [Int.toNat_natCast, getElem!_pos l i hi]; exact List.getElem_mem hi
    have e := take_snoc' hpl
    rw [placesL_get hi, show l[i]! = l[((i : Int)).toNat]! from rfl] at e
    have er : own[((i : Int)).toNat]! = rankOf (l.map Row.tr) (l[((i : Int)).toNat]!).tr := by rw [hown]; exact ranks_get hi
    have hio : i < own.length := by omega
    have q78 := fun h => c78 l[((i : Int)).toNat]! h (hL _ hm)
    have room : ((((placesL l).take i).length + 1) * 64 ≤ roomLimit) := by rw [List.length_take]; unfold roomLimit; omega
    unfold b28_0
    cases hs : serL (l[((i : Int)).toNat]!).tr with
    | nil =>
      rw [hs, List.length_nil] at q78
      have e1 : placeOf (l.map Row.tr) l[((i : Int)).toNat]! = ⟨(l[((i : Int)).toNat]!).who, own[((i : Int)).toNat]!, sNone, 0, noWhy (decide ((l[((i : Int)).toNat]!).tr.length = 0)) (l[((i : Int)).toNat]!).ret⟩ := by
        simp only [placeOf, hs, er]
      by_cases hlen : (l[((i : Int)).toNat]!).tr.length = 0
      · have q79 := fun h => c79 true (l[((i : Int)).toNat]!).ret h
        rw [decide_eq_true hlen] at e1
        repeat' first | (apply WD.cl0; exact rfl; exact rfl; (first | (simp only [List.nil_append, List.cons_append]; exact rfl) | exact rfl); first | exact q79 _) | apply W.seq | apply SQn | apply W.region | apply WO.nil | apply W.block | apply W.skip | apply W.draw | apply WD.nil | (apply WD.pure1; exact rfl) | (apply WD.load1; exact rfl; exact rfl; exact rfl) | (apply WD.store1; exact rfl; exact rfl; exact rfl) | (apply WD.new1; exact rfl) | (apply WD.app; exact rfl; exact rfl; intro _) | (apply W.condT; exact rfl) | (apply W.condF; exact rfl) | (apply WO.lss; exact rfl; exact rfl; all_goals first | (intro _; exfalso; omega) | intro _) | (apply WO.gtr; exact rfl; exact rfl; all_goals first | (intro _; exfalso; omega) | intro _) | (apply WO.eql; exact rfl; exact rfl; all_goals first | (intro _; exfalso; omega) | intro _) | (apply WO.stK; exact rfl; exact rfl; exact ⟨rfl, by first | exact Nat.le_refl _ | decide | (simp [overwrite]), rfl⟩; exact rfl) | (apply WO.ldK; exact rfl; (first | exact at_new | assumption | exact at_old at_new | exact at_old (at_old at_new) | exact at_old (at_old (at_old at_new)) | exact at_put (by simp) | ((repeat apply at_old); assumption)); exact rfl) | (apply WO.cll; exact rfl; exact rfl; first | exact q78 _) | (apply WO.iav; exact rfl; exact rfl; omega) | (apply WO.lda; exact rfl; exact fun _ => rfl; (first | omega | (simp only [List.length_set]; omega) | (simp; omega)); decide; exact rfl; case ia => infer_instance) | (apply WO.ldf; exact rfl; exact fun _ => rfl; (first | omega | (simp only [List.length_set]; omega) | (simp; omega)); decide; exact rfl; case ia => infer_instance) | (apply WO.hlv; exact rfl; exact rfl; exact rfl) | (apply WO.hpv; exact rfl; exact rfl; exact rfl) | (apply WO.pl; exact rfl; exact rfl) | (apply WO.pp; exact rfl; exact rfl)
        refine OutE.app (f := placeC) (m := [⟨(l[((i : Int)).toNat]!).who, own[((i : Int)).toNat]!, sNone, 0, noWhy true (l[((i : Int)).toNat]!).ret⟩]) (S := []) (fun _ => rfl) (fun _ => rfl) (by decide) ((ho.grow [_]).grow [_]) (by simp) rfl rfl (Sl.ofAt (f := placeC) (esz := 5) (l := [⟨(l[((i : Int)).toNat]!).who, own[((i : Int)).toNat]!, sNone, 0, noWhy true (l[((i : Int)).toNat]!).ret⟩]) (e := 74) (fun _ => rfl) at_new rfl) room (fun H w' o' ho' hk hlen => ?_)
        repeat' first | apply SQn | apply W.region | apply WO.nil | apply BQn | apply WD.nil | (apply WD.pure1; exact rfl) | (apply WO.add; exact rfl; exact rfl; omega) | (apply WO.pl; exact rfl; exact rfl) | (apply WO.pp; exact rfl; exact rfl)
        exact LIn ⟨_, _, _, _, _, _, rfl, by rw [e, e1]; exact ho'⟩
      · have q79 := fun h => c79 false (l[((i : Int)).toNat]!).ret h
        rw [decide_eq_false hlen] at e1
        repeat' first | (apply WD.cl0; exact rfl; exact rfl; (first | (simp only [List.nil_append, List.cons_append]; exact rfl) | exact rfl); first | exact q79 _) | apply W.seq | apply SQn | apply W.region | apply WO.nil | apply W.block | apply W.skip | apply W.draw | apply WD.nil | (apply WD.pure1; exact rfl) | (apply WD.load1; exact rfl; exact rfl; exact rfl) | (apply WD.store1; exact rfl; exact rfl; exact rfl) | (apply WD.new1; exact rfl) | (apply WD.app; exact rfl; exact rfl; intro _) | (apply W.condT; exact rfl) | (apply W.condF; exact rfl) | (apply WO.lss; exact rfl; exact rfl; all_goals first | (intro _; exfalso; omega) | intro _) | (apply WO.gtr; exact rfl; exact rfl; all_goals first | (intro _; exfalso; omega) | intro _) | (apply WO.eql; exact rfl; exact rfl; all_goals first | (intro _; exfalso; omega) | intro _) | (apply WO.stK; exact rfl; exact rfl; exact ⟨rfl, by first | exact Nat.le_refl _ | decide | (simp [overwrite]), rfl⟩; exact rfl) | (apply WO.ldK; exact rfl; (first | exact at_new | assumption | exact at_old at_new | exact at_old (at_old at_new) | exact at_old (at_old (at_old at_new)) | exact at_put (by simp) | ((repeat apply at_old); assumption)); exact rfl) | (apply WO.cll; exact rfl; exact rfl; first | exact q78 _) | (apply WO.iav; exact rfl; exact rfl; omega) | (apply WO.lda; exact rfl; exact fun _ => rfl; (first | omega | (simp only [List.length_set]; omega) | (simp; omega)); decide; exact rfl; case ia => infer_instance) | (apply WO.ldf; exact rfl; exact fun _ => rfl; (first | omega | (simp only [List.length_set]; omega) | (simp; omega)); decide; exact rfl; case ia => infer_instance) | (apply WO.hlv; exact rfl; exact rfl; exact rfl) | (apply WO.hpv; exact rfl; exact rfl; exact rfl) | (apply WO.pl; exact rfl; exact rfl) | (apply WO.pp; exact rfl; exact rfl)
        refine OutE.app (f := placeC) (m := [⟨(l[((i : Int)).toNat]!).who, own[((i : Int)).toNat]!, sNone, 0, noWhy false (l[((i : Int)).toNat]!).ret⟩]) (S := []) (fun _ => rfl) (fun _ => rfl) (by decide) ((ho.grow [_]).grow [_]) (by simp) rfl rfl (Sl.ofAt (f := placeC) (esz := 5) (l := [⟨(l[((i : Int)).toNat]!).who, own[((i : Int)).toNat]!, sNone, 0, noWhy false (l[((i : Int)).toNat]!).ret⟩]) (e := 74) (fun _ => rfl) at_new rfl) room (fun H w' o' ho' hk hlen => ?_)
        repeat' first | apply SQn | apply W.region | apply WO.nil | apply BQn | apply WD.nil | (apply WD.pure1; exact rfl) | (apply WO.add; exact rfl; exact rfl; omega) | (apply WO.pl; exact rfl; exact rfl) | (apply WO.pp; exact rfl; exact rfl)
        exact LIn ⟨_, _, _, _, _, _, rfl, by rw [e, e1]; exact ho'⟩
    | cons x t =>
      rw [hs] at q78
      have e1 : placeOf (l.map Row.tr) l[((i : Int)).toNat]! = ⟨(l[((i : Int)).toNat]!).who, own[((i : Int)).toNat]!, sLength, x, []⟩ := by
        simp only [placeOf, hs, er]
      have hpos : 0 < (x :: t).length := by simp
      have hx : (x :: t)[((0 : Int)).toNat]! = x := rfl
      generalize hxt : x :: t = xt at *
      by_cases hlen : (l[((i : Int)).toNat]!).tr.length = 0
      · have q79 := fun h => c79 true (l[((i : Int)).toNat]!).ret h
        repeat' first | (apply WD.cl0; exact rfl; exact rfl; (first | (simp only [List.nil_append, List.cons_append]; exact rfl) | exact rfl); first | exact q79 _) | apply W.seq | apply SQn | apply W.region | apply WO.nil | apply W.block | apply W.skip | apply W.draw | apply WD.nil | (apply WD.pure1; exact rfl) | (apply WD.load1; exact rfl; exact rfl; exact rfl) | (apply WD.store1; exact rfl; exact rfl; exact rfl) | (apply WD.new1; exact rfl) | (apply WD.app; exact rfl; exact rfl; intro _) | (apply W.condT; exact rfl) | (apply WO.lss; exact rfl; exact rfl; all_goals first | (intro _; exfalso; omega) | intro _) | (apply WO.gtr; exact rfl; exact rfl; all_goals first | (intro _; exfalso; omega) | intro _) | (apply WO.eql; exact rfl; exact rfl; all_goals first | (intro _; exfalso; omega) | intro _) | (apply WO.stK; exact rfl; exact rfl; exact ⟨rfl, by first | exact Nat.le_refl _ | decide | (simp [overwrite]), rfl⟩; exact rfl) | (apply WO.ldK; exact rfl; (first | exact at_new | assumption | exact at_old at_new | exact at_old (at_old at_new) | exact at_old (at_old (at_old at_new)) | exact at_put (by simp) | ((repeat apply at_old); assumption)); exact rfl) | (apply WO.cll; exact rfl; exact rfl; first | exact q78 _) | (apply WO.iav; exact rfl; exact rfl; omega) | (apply WO.lda; exact rfl; exact fun _ => rfl; (first | omega | (simp only [List.length_set]; omega) | (simp; omega)); decide; exact rfl; case ia => infer_instance) | (apply WO.ldf; exact rfl; exact fun _ => rfl; (first | omega | (simp only [List.length_set]; omega) | (simp; omega)); decide; exact rfl; case ia => infer_instance) | (apply WO.hlv; exact rfl; exact rfl; exact rfl) | (apply WO.hpv; exact rfl; exact rfl; exact rfl) | (apply WO.pl; exact rfl; exact rfl) | (apply WO.pp; exact rfl; exact rfl)
        rw [hx]
        refine OutE.app (f := placeC) (m := [⟨(l[((i : Int)).toNat]!).who, own[((i : Int)).toNat]!, sLength, x, []⟩]) (S := []) (fun _ => rfl) (fun _ => rfl) (by decide) ((ho.grow [_]).grow [_]) (by simp) rfl rfl (Sl.ofAt (f := placeC) (esz := 5) (l := [⟨(l[((i : Int)).toNat]!).who, own[((i : Int)).toNat]!, sLength, x, []⟩]) (e := 74) (fun _ => rfl) at_new rfl) room (fun H w' o' ho' hk hlen => ?_)
        repeat' first | apply SQn | apply W.region | apply WO.nil | apply BQn | apply WD.nil | (apply WD.pure1; exact rfl) | (apply WO.add; exact rfl; exact rfl; omega) | (apply WO.pl; exact rfl; exact rfl) | (apply WO.pp; exact rfl; exact rfl)
        exact LIn ⟨_, _, _, _, _, _, rfl, by rw [e, e1]; exact ho'⟩
      · have q79 := fun h => c79 false (l[((i : Int)).toNat]!).ret h
        repeat' first | (apply WD.cl0; exact rfl; exact rfl; (first | (simp only [List.nil_append, List.cons_append]; exact rfl) | exact rfl); first | exact q79 _) | apply W.seq | apply SQn | apply W.region | apply WO.nil | apply W.block | apply W.skip | apply W.draw | apply WD.nil | (apply WD.pure1; exact rfl) | (apply WD.load1; exact rfl; exact rfl; exact rfl) | (apply WD.store1; exact rfl; exact rfl; exact rfl) | (apply WD.new1; exact rfl) | (apply WD.app; exact rfl; exact rfl; intro _) | (apply W.condT; exact rfl) | (apply WO.lss; exact rfl; exact rfl; all_goals first | (intro _; exfalso; omega) | intro _) | (apply WO.gtr; exact rfl; exact rfl; all_goals first | (intro _; exfalso; omega) | intro _) | (apply WO.eql; exact rfl; exact rfl; all_goals first | (intro _; exfalso; omega) | intro _) | (apply WO.stK; exact rfl; exact rfl; exact ⟨rfl, by first | exact Nat.le_refl _ | decide | (simp [overwrite]), rfl⟩; exact rfl) | (apply WO.ldK; exact rfl; (first | exact at_new | assumption | exact at_old at_new | exact at_old (at_old at_new) | exact at_old (at_old (at_old at_new)) | exact at_put (by simp) | ((repeat apply at_old); assumption)); exact rfl) | (apply WO.cll; exact rfl; exact rfl; first | exact q78 _) | (apply WO.iav; exact rfl; exact rfl; omega) | (apply WO.lda; exact rfl; exact fun _ => rfl; (first | omega | (simp only [List.length_set]; omega) | (simp; omega)); decide; exact rfl; case ia => infer_instance) | (apply WO.ldf; exact rfl; exact fun _ => rfl; (first | omega | (simp only [List.length_set]; omega) | (simp; omega)); decide; exact rfl; case ia => infer_instance) | (apply WO.hlv; exact rfl; exact rfl; exact rfl) | (apply WO.hpv; exact rfl; exact rfl; exact rfl) | (apply WO.pl; exact rfl; exact rfl) | (apply WO.pp; exact rfl; exact rfl)
        rw [hx]
        refine OutE.app (f := placeC) (m := [⟨(l[((i : Int)).toNat]!).who, own[((i : Int)).toNat]!, sLength, x, []⟩]) (S := []) (fun _ => rfl) (fun _ => rfl) (by decide) ((ho.grow [_]).grow [_]) (by simp) rfl rfl (Sl.ofAt (f := placeC) (esz := 5) (l := [⟨(l[((i : Int)).toNat]!).who, own[((i : Int)).toNat]!, sLength, x, []⟩]) (e := 74) (fun _ => rfl) at_new rfl) room (fun H w' o' ho' hk hlen => ?_)
        repeat' first | apply SQn | apply W.region | apply WO.nil | apply BQn | apply WD.nil | (apply WD.pure1; exact rfl) | (apply WO.add; exact rfl; exact rfl; omega) | (apply WO.pl; exact rfl; exact rfl) | (apply WO.pp; exact rfl; exact rfl)
        exact LIn ⟨_, _, _, _, _, _, rfl, by rw [e, e1]; exact ho'⟩
  · subst hs
    rw [← places_len l, List.take_length] at ho
    have q80 := c80 (placesL l) o K (ho.sl (fun _ => rfl)) (by rw [places_len]; exact hl)
    unfold b28_0
    repeat' first | apply W.seq | apply SQn | apply W.region | apply WO.nil | apply W.ret | apply W.exit | apply SQe | apply BQe | apply LIe | (apply W.condF; exact rfl) | (apply WO.lss; exact rfl; exact rfl; all_goals first | (intro _; exfalso; omega) | intro _) | (apply WO.cll; exact rfl; exact rfl; first | exact q80) | (apply WO.pl; exact rfl; exact rfl) | (apply WO.pp; exact rfl; exact rfl)
    exact ⟨.inr rfl, rfl, _, rfl, [], .same (topL_arr (fun _ => rfl) _)⟩
end Go.Ab.Ch6

/-
  Own work: chapter 6: rankings and results, their errors, copies and comparisons of places.
-/
namespace Go.Ab.Ch6
open Go.Ab.Sort
variable {M : Mach} {cap c1 c2 : Option Nat}
abbrev eqMark : EqT := .strct [(0, 1, false, .str), (1, 1, false, .int), (2, 1, false, .str)]
abbrev eqPlace : EqT := .strct [(0, 1, false, .str), (1, 1, false, .int), (2, 3, true, eqMark)]
abbrev eqRes : EqT := .strct [(0, 1, false, .str), (1, 3, true, eqMark)]
theorem goEq_cons {rec : EqT → AV → AV → Option Bool} {off n : Nat} {ag : Bool} {t : EqT} {rest : List (Nat × Nat × Bool × EqT)} {xs ys : List AV} {x y : AV} (h1 : partOf xs off n ag = some x) (h2 : partOf ys off n ag = some y) (h3 : rec t x y = some true) (h4 : goEq rec rest xs ys = some true) : goEq rec ((off, n, ag, t) :: rest) xs ys = some true := by
  simp only [goEq, h1, h2, h3, h4]
theorem eqA_str (d : Nat) (s : Str) : eqA (d + 1) .str (.str s) (.str s) = some true := by
  rw [eqA, beq_self_eq_true]
theorem eqA_int (d : Nat) (n : Int) : eqA (d + 1) .int (.int .i64 n) (.int .i64 n) = some true := by
  rw [eqA, if_pos rfl, beq_self_eq_true]
theorem eqA_strct (d : Nat) (fs : List (Nat × Nat × Bool × EqT)) (xs ys : List AV) : eqA (d + 1) (.strct fs) (.agg xs) (.agg ys) = goEq (eqA d) fs xs ys := by
  rw [eqA]
theorem goEq_nil {rec : EqT → AV → AV → Option Bool} {xs ys : List AV} : goEq rec [] xs ys = some true := rfl
theorem eqA_mark (d : Nat) (k w : Str) (v : Int) : eqA (d + 2) eqMark (.agg [.str k, .int .i64 v, .str w]) (.agg [.str k, .int .i64 v, .str w]) = some true :=
  (eqA_strct (d + 1) _ _ _).trans <| goEq_cons (x := .str k) (y := .str k) rfl rfl (eqA_str d k) (goEq_cons (x := .int .i64 v) (y := .int .i64 v) rfl rfl (eqA_int d v) (goEq_cons (x := .str w) (y := .str w) rfl rfl (eqA_str d w) goEq_nil))
theorem eqA_place (p : Place) : eqA 100 eqPlace (.agg (placeC p)) (.agg (placeC p)) = some true :=
  (eqA_strct 99 _ _ _).trans <| goEq_cons (x := .str p.who) (y := .str p.who) rfl rfl (eqA_str 98 p.who) (goEq_cons (x := .int .i64 p.rank) (y := .int .i64 p.rank) rfl rfl (eqA_int 98 p.rank) (goEq_cons (x := .agg [.str p.kind, .int .i64 p.val, .str p.why]) (y := .agg [.str p.kind, .int .i64 p.val, .str p.why]) rfl rfl (eqA_mark 97 p.kind p.why p.val) goEq_nil))
def resC (p : Place) : List AV := [.str p.who, .str p.kind, .int .i64 p.val, .str p.why]
abbrev ressC (l : List Place) : List AV := arr resC l
theorem eqA_res (p : Place) : eqA 100 eqRes (.agg (resC p)) (.agg (resC p)) = some true :=
  (eqA_strct 99 _ _ _).trans <| goEq_cons (x := .str p.who) (y := .str p.who) rfl rfl (eqA_str 98 p.who) (goEq_cons (x := .agg [.str p.kind, .int .i64 p.val, .str p.why]) (y := .agg [.str p.kind, .int .i64 p.val, .str p.why]) rfl rfl (eqA_mark 97 p.kind p.why p.val) goEq_nil)
theorem w29 (hft : M.FT = FT) (P : List Place) (hP : P.length < 1000000) : Run M 29 [.vs (placesC P) P.length c1, .vs (placesC P) P.length c2] [] ⟨.bool true, [], []⟩ := by
  refine run_of_W (by rw [hft]; exact ft29) (by simp) ?_
  unfold b29
  simp only [List.map_cons, List.map_nil, List.getElem?_cons_zero, List.getElem?_cons_succ, List.getElem?_nil, Option.getD_some, Option.getD_none]
  repeat' first | apply W.seq | apply SQn | apply W.region | apply WO.nil | apply W.block | apply W.skip | (apply W.condF; exact rfl) | (apply WO.neq; exact rfl; exact rfl; all_goals first | (intro _; exfalso; omega) | intro _) | (apply WO.pl; exact rfl; exact rfl) | (apply WO.pp; exact rfl; exact rfl)
  refine W.loopI P.length (fun i s => ∃ lo wr, s = ⟨⟨[.vs (placesC P) P.length c1, .vs (placesC P) P.length c2, .bool false, .int .i64 i], lo, [], []⟩, wr⟩) (fun i s hi ⟨lo, wr, hs⟩ => ?_) (fun s ⟨lo, wr, hs⟩ => ?_) (Nat.zero_le _) ⟨_, _, rfl⟩
  · subst hs
    unfold b29_0
    repeat' first | (apply WO.eqV; exact rfl; exact rfl; exact eqA_place _) | apply W.seq | apply SQn | apply W.region | apply WO.nil | apply W.block | apply W.skip | apply BQn | (apply W.drawro; exact rfl) | (apply W.condT; exact rfl) | (apply W.condF; exact rfl) | (apply WO.lss; exact rfl; exact rfl; all_goals first | (intro _; exfalso; omega) | intro _) | (apply WO.add; exact rfl; exact rfl; omega) | (apply WO.iav; exact rfl; exact rfl; omega) | (apply WO.lda; exact rfl; exact fun _ => rfl; (first | omega | (simp only [List.length_set]; omega) | (simp; omega)); decide; exact rfl; case ia => infer_instance) | (apply WO.pl; exact rfl; exact rfl) | (apply WO.pp; exact rfl; exact rfl)
    exact LIn ⟨_, _, rfl⟩
  · subst hs
    unfold b29_0
    repeat' first | apply W.seq | apply SQn | apply W.region | apply WO.nil | apply W.ret | apply W.exit | apply SQe | apply BQe | apply LIe | (apply W.condF; exact rfl) | (apply WO.lss; exact rfl; exact rfl; all_goals first | (intro _; exfalso; omega) | intro _) | (apply WO.pl; exact rfl; exact rfl) | (apply WO.pp; exact rfl; exact rfl)
    exact ⟨.inr rfl, rfl, _, rfl, rfl, rfl⟩
theorem w30 (hft : M.FT = FT) (P : List Place) (hP : P.length < 1000000) : ∃ v hh, FrN hh v (.vs (placesC P) P.length none) ∧ Run M 30 [.vs (placesC P) P.length cap] [] ⟨v, hh, []⟩ := by
  refine run_ofE (P := fun v hh => FrN hh v (.vs (placesC P) P.length none)) (by rw [hft]; exact ft30) (by simp) ?_
  unfold b30
  simp only [List.map_cons, List.map_nil, List.getElem?_cons_zero, List.getElem?_cons_succ, List.getElem?_nil, Option.getD_some, Option.getD_none]
  repeat' first | apply W.seq | apply SQn | apply W.region | apply WO.nil | apply W.block | (apply WO.pp; exact rfl; exact rfl)
  refine W.loopI P.length (fun i s => ∃ o a3 lo K wr, s = ⟨⟨[.vs (placesC P) P.length cap, .nilsl, o, a3, .vs (placesC P) P.length cap, .int .i64 P.length, .int .i64 i], lo, K, []⟩, wr⟩ ∧ OutE placeC 5 74 K o (P.take i) []) (fun i s hi ⟨o, a3, lo, K, wr, hs, ho⟩ => ?_) (fun s ⟨o, a3, lo, K, wr, hs, ho⟩ => ?_) (Nat.zero_le _) ⟨_, _, _, _, _, rfl, .ofNil⟩
  · subst hs
    have e := take_snoc' hi
    rw [show P[i]! = P[((i : Int)).toNat]! from rfl] at e
    have room : ((P.take i).length + 1) * 64 ≤ roomLimit := by rw [List.length_take]; unfold roomLimit; omega
    unfold b30_0
    repeat' first | apply W.seq | apply SQn | apply W.region | apply WO.nil | apply W.block | apply W.skip | (apply W.condT; exact rfl) | (apply WO.lss; exact rfl; exact rfl; all_goals first | (intro _; exfalso; omega) | intro _) | (apply WO.stK; exact rfl; exact rfl; exact ⟨rfl, by first | exact Nat.le_refl _ | decide | (simp [overwrite]), rfl⟩; exact rfl) | (apply WO.ldK; exact rfl; (first | exact at_new | assumption | exact at_old at_new | exact at_old (at_old at_new) | exact at_old (at_old (at_old at_new)) | exact at_put (by simp) | ((repeat apply at_old); assumption)); exact rfl) | (apply WO.iav; exact rfl; exact rfl; omega) | (apply WO.lda; exact rfl; exact fun _ => rfl; (first | omega | (simp only [List.length_set]; omega) | (simp; omega)); decide; exact rfl; case ia => infer_instance) | (apply WO.hlv; exact rfl; exact rfl; exact rfl) | (apply WO.hpv; exact rfl; exact rfl; exact rfl) | (apply WO.pl; exact rfl; exact rfl)
    generalize P[((i : Int)).toNat]! = x at *
    refine OutE.app (f := placeC) (m := [x]) (S := []) (fun _ => rfl) (fun _ => rfl) (by decide) ((ho.grow [_]).grow [_]) (by simp) rfl rfl (Sl.ofAt (f := placeC) (esz := 5) (l := [x]) (e := 74) (fun _ => rfl) at_new rfl) room (fun H w' o' ho' hk hlen => ?_)
    repeat' first | apply SQn | apply W.region | apply WO.nil | apply BQn | (apply WO.add; exact rfl; exact rfl; omega) | (apply WO.pp; exact rfl; exact rfl)
    exact LIn ⟨_, _, _, _, _, rfl, by rw [e]; exact ho'⟩
  · subst hs
    rw [List.take_length] at ho
    unfold b30_0
    repeat' first | apply W.seq | apply SQn | apply W.region | apply WO.nil | apply W.ret | apply W.exit | apply SQe | apply BQe | apply LIe | (apply W.condF; exact rfl) | (apply WO.lss; exact rfl; exact rfl; all_goals first | (intro _; exfalso; omega) | intro _) | (apply WO.pl; exact rfl; exact rfl) | (apply WO.pp; exact rfl; exact rfl)
    exact ⟨.inr rfl, rfl, _, rfl, ho.finN (fun _ => rfl) (fun _ => rfl) (fun _ => rfl)⟩
def rankP (l : List Row) : List Place := if rowsE l = 0 then orderP (placesL l) else []
def rankT (l : List Row) : AV := .tup [.vs (placesC (rankP l)) (rankP l).length none, .int .i64 (rowsE l)]
def resT (l : List Row) : AV := .tup [.vs (ressC (rankP l)) (rankP l).length none, .int .i64 (rowsE l)]
structure CRg (M : Mach) : Prop where
  ft : M.FT = FT
  c27 : ∀ (l : List Row) cap h, (∀ r ∈ l, r.who.length < 1000000 ∧ r.tr.length < 1000000) → M.ext 27 [.vs (rowsC l) l.length cap] h = some ⟨.int .i64 (rowsE l), h, []⟩
  c71 : ∀ (l : List Row) cap h, l.length < 100000 → (∀ r ∈ l, fineT r.tr) → M.ext 71 [.vs (rowsC l) l.length cap] h = some ⟨.vs (placesC (orderP (placesL l))) (orderP (placesL l)).length none, h, []⟩
theorem rows_fine {l : List Row} (h : rowsE l = 0) : l.length < 100000 ∧ ∀ r ∈ l, fineT r.tr := by
  obtain ⟨h1, h2⟩ := rowsE_all h
  refine ⟨by omega, fun r hr => ?_⟩
  obtain ⟨b1, b2⟩ := h2 r hr
  refine ⟨by omega, fun y hy => ?_⟩
  have := List.any_eq_false.1 b2 y hy
  simp at this
  omega
theorem fr_pair {hh : Heap} {x y : AV} {E : Int} (h : Fr hh [] x y) : Fr hh [] (tupA [x, .int .i64 E]) (.tup [y, .int .i64 E]) :=
  .tup rfl fun i p q hp hq => by
    match i, hp, hq with
    | 0, hp, hq => cases hp; cases hq; exact h
    | 1, hp, hq => cases hp; cases hq; exact .same rfl
theorem w23 (C : CRg M) (l : List Row) (hL : ∀ r ∈ l, r.who.length < 1000000 ∧ r.tr.length < 1000000) : ∃ v hh, (∃ B, Fr hh B v (rankT l)) ∧ Run M 23 [.vs (rowsC l) l.length cap] [] ⟨v, hh, []⟩ := by
  have q27 := fun h => C.c27 l cap h hL
  refine run_ofE (P := fun v hh => ∃ B, Fr hh B v (rankT l)) (by rw [C.ft]; exact ft23) (by simp) ?_
  unfold b23
  simp only [List.map_cons, List.map_nil, List.getElem?_cons_zero, List.getElem?_cons_succ, List.getElem?_nil, Option.getD_some, Option.getD_none]
  by_cases h : rowsE l = 0
  · obtain ⟨h1, h2⟩ := rows_fine h
    have q71 := fun h => C.c71 l cap h h1 h2
    rw [h] at q27
    repeat' first | apply W.seq | apply SQn | apply W.region | apply WO.nil | apply W.ret | apply W.skip | (apply W.condF; exact rfl) | (apply WO.neq; exact rfl; exact rfl; all_goals first | (intro _; exfalso; omega) | intro _) | (apply WO.cll; exact rfl; exact rfl; first | exact q27 _ | exact q71 _) | (apply WO.pl; exact rfl; exact rfl) | (apply WO.pp; exact rfl; exact rfl)
    · refine ⟨.inr rfl, rfl, _, rfl, [], ?_⟩
      rw [rankT, rankP, if_pos h, h]
      exact fr_pair (.same (topL_arr (fun _ => rfl) _))
  · generalize hE : rowsE l = E at *
    repeat' first | apply W.seq | apply SQn | apply W.region | apply WO.nil | apply W.ret | apply SQr | (apply W.condT; exact rfl) | (apply WO.neq; exact rfl; exact rfl; all_goals first | (intro _; exfalso; omega) | intro _) | (apply WO.cll; exact rfl; exact rfl; first | exact q27 _) | (apply WO.pl; exact rfl; exact rfl) | (apply WO.pp; exact rfl; exact rfl)
    · refine ⟨.inr rfl, rfl, _, rfl, [], ?_⟩
      rw [rankT, rankP, hE, if_neg h]
      exact fr_pair (.nil (fun n hn => by cases hn))
    all_goals contradiction
theorem w25 (C : CRg M) (l : List Row) (hL : ∀ r ∈ l, r.who.length < 1000000 ∧ r.tr.length < 1000000) : ∃ v hh, (∃ B, Fr hh B v (resT l)) ∧ Run M 25 [.vs (rowsC l) l.length cap] [] ⟨v, hh, []⟩ := by
  have q27 := fun h => C.c27 l cap h hL
  refine run_ofE (P := fun v hh => ∃ B, Fr hh B v (resT l)) (by rw [C.ft]; exact ft25) (by simp) ?_
  unfold b25
  simp only [List.map_cons, List.map_nil, List.getElem?_cons_zero, List.getElem?_cons_succ, List.getElem?_nil, Option.getD_some, Option.getD_none]
  by_cases h : rowsE l = 0
  · obtain ⟨h1, h2⟩ := rows_fine h
    have q71 := fun h => C.c71 l cap h h1 h2
    have hlen : (orderP (placesL l)).length < 100000 := by rw [order_len, places_len]; exact h1
    have eR : rankP l = orderP (placesL l) := by rw [rankP, if_pos h]
    have fin : ∀ o hp, OutE resC 4 72 hp o (orderP (placesL l)) [] → ∃ B, Fr (if (tupA [o, .int .i64 0]).top ≤ 0 then [] else hp) B (tupA [o, .int .i64 0]) (resT l) := fun o hp ho => by
      rw [resT, eR, h]
      obtain ⟨B, hf, _⟩ := OutE.finT (f := resC) (h := ho) (u := .int .i64 0) rfl rfl (fun _ => rfl) (fun _ => rfl) (fun _ => rfl)
      exact ⟨B, hf⟩
    rw [h] at q27
    generalize orderP (placesL l) = P at *
    repeat' first | apply W.seq | apply SQn | apply W.region | apply WO.nil | apply W.block | apply W.skip | (apply W.condF; exact rfl) | (apply WO.neq; exact rfl; exact rfl; all_goals first | (intro _; exfalso; omega) | intro _) | (apply WO.cll; exact rfl; exact rfl; first | exact q27 _) | (apply WO.clp; exact rfl; exact rfl; first | exact q71 _) | (apply WO.pl; exact rfl; exact rfl) | (apply WO.pp; exact rfl; exact rfl)
    · refine W.loopI P.length (fun i s => ∃ o a5 lo K wr, s = ⟨⟨[.vs (rowsC l) l.length cap, .nilsl, .int .i64 0, .int .i64 0, o, a5, .vs (placesC P) P.length none, .int .i64 P.length, .int .i64 i], lo, K, []⟩, wr⟩ ∧ OutE resC 4 72 K o (P.take i) []) (fun i s hi ⟨o, a5, lo, K, wr, hs, ho⟩ => ?_) (fun s ⟨o, a5, lo, K, wr, hs, ho⟩ => ?_) (Nat.zero_le _) ⟨_, _, _, _, _, rfl, .ofNil⟩
      · subst hs
        have e := take_snoc' hi
        rw [show P[i]! = P[((i : Int)).toNat]! from rfl] at e
        have room : ((P.take i).length + 1) * 56 ≤ roomLimit := by rw [List.length_take]; unfold roomLimit; omega
        unfold b25_0
        repeat' first | apply W.seq | apply SQn | apply W.region | apply WO.nil | apply W.block | apply W.skip | (apply W.condT; exact rfl) | (apply WO.lss; exact rfl; exact rfl; all_goals first | (intro _; exfalso; omega) | intro _) | (apply WO.stK; exact rfl; exact rfl; exact ⟨rfl, by first | exact Nat.le_refl _ | decide | (simp [overwrite]), rfl⟩; exact rfl) | (apply WO.ldK; exact rfl; (first | exact at_new | assumption | exact at_old at_new | exact at_old (at_old at_new) | exact at_old (at_old (at_old at_new)) | exact at_put (by simp) | ((repeat apply at_old); assumption)); exact rfl) | (apply WO.iav; exact rfl; exact rfl; omega) | (apply WO.lda; exact rfl; exact fun _ => rfl; (first | omega | (simp only [List.length_set]; omega) | (simp; omega)); decide; exact rfl; case ia => infer_instance) | (apply WO.hlv; exact rfl; exact rfl; exact rfl) | (apply WO.hpv; exact rfl; exact rfl; exact rfl) | (apply WO.pl; exact rfl; exact rfl)
        generalize P[((i : Int)).toNat]! = x at *
        refine OutE.app (f := resC) (m := [x]) (S := []) (fun _ => rfl) (fun _ => rfl) (by decide) ((ho.grow [_]).grow [_]) (by simp) rfl rfl (Sl.ofAt (f := resC) (esz := 4) (l := [x]) (e := 72) (fun _ => rfl) at_new rfl) room (fun H w' o' ho' hk hlen => ?_)
        repeat' first | apply SQn | apply W.region | apply WO.nil | apply BQn | (apply WO.add; exact rfl; exact rfl; omega) | (apply WO.pp; exact rfl; exact rfl)
        exact LIn ⟨_, _, _, _, _, rfl, by rw [e]; exact ho'⟩
      · subst hs
        rw [List.take_length] at ho
        unfold b25_0
        repeat' first | apply W.seq | apply SQn | apply W.region | apply WO.nil | apply W.ret | apply W.exit | apply SQe | apply BQe | apply LIe | (apply W.condF; exact rfl) | (apply WO.lss; exact rfl; exact rfl; all_goals first | (intro _; exfalso; omega) | intro _) | (apply WO.pl; exact rfl; exact rfl) | (apply WO.pp; exact rfl; exact rfl)
        exact ⟨.inr rfl, rfl, _, rfl, fin _ _ ho⟩
  · generalize hE : rowsE l = E at *
    repeat' first | apply W.seq | apply SQn | apply W.region | apply WO.nil | apply W.ret | apply SQr | (apply W.condT; exact rfl) | (apply WO.neq; exact rfl; exact rfl; all_goals first | (intro _; exfalso; omega) | intro _) | (apply WO.cll; exact rfl; exact rfl; first | exact q27 _) | (apply WO.pl; exact rfl; exact rfl) | (apply WO.pp; exact rfl; exact rfl)
    · refine ⟨.inr rfl, rfl, _, rfl, [], ?_⟩
      rw [resT, rankP, hE, if_neg h]
      exact fr_pair (.nil (fun n hn => by cases hn))
    all_goals contradiction
end Go.Ab.Ch6

/-
  Own work: chapter 6: the law FieldRanks.
-/
namespace Go.Ab.Ch6
open Go.Ab.Sort
variable {M : Mach}
def okR (l : List Row) : Prop := l.length < 1000 ∧ ∀ r ∈ l, r.who.length < 1000 ∧ r.tr.length < 1000
structure C5 (M : Mach) : Prop where
  ft : M.FT = FT
  c10 : ∀ h, M.ext 10 [] h = some ⟨.bool true, h, []⟩
  c22 : ∀ (l : List Row) h, M.ext 22 [.vs (rowsC l) l.length none] h = some ⟨.bool (shortR l), h, []⟩
  c24 : ∀ (l : List Row) h, l.length < 1000 → (∀ r ∈ l, r.tr.length < 1000) → M.ext 24 [.vs (rowsC l) l.length none] h = some ⟨.vs (rowsC l) l.length none, h, []⟩
  c23 : ∀ (l : List Row) h, okR l → M.ext 23 [.vs (rowsC l) l.length none] h = some ⟨rankT l, h, []⟩
  c25 : ∀ (l : List Row) h, okR l → M.ext 25 [.vs (rowsC l) l.length none] h = some ⟨resT l, h, []⟩
  c26 : ∀ (l : List Row) h, (∀ r ∈ l, r.who.length < 1000 ∧ r.tr.length < 1000) → M.ext 26 [.vs (rowsC l) l.length none] h = some ⟨.int .i64 (rowsE l), h, []⟩
  c27 : ∀ (l : List Row) h, (∀ r ∈ l, r.who.length < 1000 ∧ r.tr.length < 1000) → M.ext 27 [.vs (rowsC l) l.length none] h = some ⟨.int .i64 (rowsE l), h, []⟩
  c28 : ∀ (l : List Row) h, okR l → M.ext 28 [.vs (rowsC l) l.length none] h = some ⟨.vs (placesC (orderP (placesL l))) (orderP (placesL l)).length none, h, []⟩
  c29 : ∀ (P : List Place) v h, Sl placeC h v P → P.length < 1000000 → M.ext 29 [.vs (placesC P) P.length none, v] h = some ⟨.bool true, h, []⟩
  c30 : ∀ (P : List Place) h, P.length < 1000000 → M.ext 30 [.vs (placesC P) P.length none] h = some ⟨.vs (placesC P) P.length none, h, []⟩
set_option maxHeartbeats 2000000 in
theorem w5 (C : C5 M) (l : List Row) : Run M 5 [.vs (rowsC l) l.length none] [] ⟨.bool true, [], []⟩ := by
  have hEnd : ∀ s : StW, s.s.dfs = [] → s.s.pe[1]? = some (.bool true) → ((fun (e : Ex) (s : StW) => (e = .normal ∨ e = .ret) ∧ s.s.dfs = [] ∧ ∃ vs, resultsA s.s [.var (.p 1)] = some vs ∧ tupA vs = .bool true ∧ (if (AV.bool true).top ≤ 0 then [] else s.s.hp) = []) Ex.ret s) := fun s h1 h2 =>
    ⟨.inr rfl, h1, [.bool true], by simp only [resultsA, St.opd, h2], rfl, rfl⟩
  have q10 := C.c10
  have q22 := C.c22 l
  refine run_of_W (by rw [C.ft]; exact ft5) (by simp) ?_
  unfold b5
  simp only [List.map_cons, List.map_nil, List.getElem?_cons_zero, List.getElem?_cons_succ, List.getElem?_nil, Option.getD_some, Option.getD_none]
  cases h2 : shortR l with
  | false =>
    rw [h2] at q22
    repeat' first | apply W.seq | apply SQn | apply W.region | apply WO.nil | apply W.ret | apply SQr | (apply W.condT; exact rfl) | (apply WO.cll; exact rfl; exact rfl; first | exact q10 _ | exact q22 _) | (apply WO.pl; exact rfl; exact rfl) | (apply WO.pp; exact rfl; exact rfl)
    all_goals exact hEnd _ rfl rfl
  | true =>
    rw [h2] at q22
    have ok : okR l := (okIn_of (names := []) rfl h2).2
    have q24 := fun h => C.c24 l h ok.1 (fun r hr => (ok.2 r hr).2)
    have q23 := fun h => C.c23 l h ok
    have q25 := fun h => C.c25 l h ok
    have q26 := fun h => C.c26 l h ok.2
    have q27 := fun h => C.c27 l h ok.2
    by_cases hE : rowsE l = 0
    · have q28 := fun h => C.c28 l h ok
      have hlen : (orderP (placesL l)).length < 1000000 := by rw [order_len, places_len]; have := ok.1; omega
      rw [rankT, rankP, hE, if_pos rfl] at q23
      rw [resT, rankP, hE, if_pos rfl] at q25
      rw [hE] at q26 q27
      generalize orderP (placesL l) = P at *
      have q29 := fun h => C.c29 P (.vs (placesC P) P.length none) h .ofVs hlen
      have q30 := fun h => C.c30 P h hlen
      repeat' first | apply W.seq | apply SQn | apply W.region | apply WO.nil | apply W.block | apply W.skip | (apply W.condT; exact rfl) | (apply W.condF; exact rfl) | (apply WO.gF; exact rfl) | (apply WO.eql; exact rfl; exact rfl; all_goals first | (intro _; exfalso; omega) | intro _) | (apply WO.neq; exact rfl; exact rfl; all_goals first | (intro _; exfalso; omega) | intro _) | (apply WO.pkF; exact rfl; exact rfl) | (apply WO.cll; exact rfl; exact rfl; first | exact q10 _ | exact q22 _ | exact q24 _ | exact q23 _ | exact q25 _ | exact q26 _ | exact q27 _ | exact q28 _ | exact q29 _ | exact q30 _) | (apply WO.pl; exact rfl; exact rfl) | (apply WO.pp; exact rfl; exact rfl)
      refine W.loopI P.length (fun i s => ∃ a8 lo wr, s = ⟨⟨[.vs (rowsC l) l.length none, .bool false, .vs (placesC P) P.length none, .int .i64 0, .vs (ressC P) P.length none, .int .i64 0, .int .i64 0, .vs (placesC P) P.length none, a8, .int .i64 P.length, .int .i64 i], lo, [], []⟩, wr⟩) (fun i s hi ⟨a8, lo, wr, hs⟩ => ?_) (fun s ⟨a8, lo, wr, hs⟩ => ?_) (Nat.zero_le _) ⟨_, _, _, rfl⟩
      · subst hs
        unfold b5_0
        repeat' first | (apply WO.eqV; exact rfl; exact rfl; exact eqA_res _) | apply W.seq | apply SQn | apply W.region | apply WO.nil | apply W.block | apply W.skip | apply BQn | (apply W.drawro; exact rfl) | (apply W.condT; exact rfl) | (apply W.condF; exact rfl) | (apply WO.lss; exact rfl; exact rfl; all_goals first | (intro _; exfalso; omega) | intro _) | (apply WO.add; exact rfl; exact rfl; omega) | (apply WO.iav; exact rfl; exact rfl; omega) | (apply WO.lda; exact rfl; exact fun _ => rfl; (first | omega | (simp only [List.length_set]; omega) | (simp; omega)); decide; exact rfl; case ia => infer_instance) | (apply WO.ldf; exact rfl; exact fun _ => rfl; (first | omega | (simp only [List.length_set]; omega) | (simp; omega)); decide; exact rfl; case ia => infer_instance) | (apply WO.pl; exact rfl; exact rfl) | (apply WO.pp; exact rfl; exact rfl)
        exact LIn ⟨_, _, _, rfl⟩
      · subst hs
        unfold b5_0
        repeat' first | apply W.seq | apply SQn | apply W.region | apply WO.nil | apply W.ret | apply W.exit | apply SQe | apply BQe | apply LIe | (apply W.condF; exact rfl) | (apply WO.lss; exact rfl; exact rfl; all_goals first | (intro _; exfalso; omega) | intro _) | (apply WO.cll; exact rfl; exact rfl; first | exact q10 _) | (apply WO.pp; exact rfl; exact rfl)
        all_goals exact hEnd _ rfl rfl
    · have q29 := fun h => C.c29 [] .nilsl h .ofNil (by decide)
      have q30 := fun h => C.c30 [] h (by decide)
      rw [rankT, rankP, if_neg hE] at q23
      rw [resT, rankP, if_neg hE] at q25
      generalize rowsE l = E at *
      repeat' first | apply W.seq | apply SQn | apply W.region | apply WO.nil | apply W.block | apply W.ret | apply W.skip | apply SQr | (apply W.condT; exact rfl) | (apply W.condF; exact rfl) | (apply WO.gF; exact rfl) | (apply WO.eql; exact rfl; exact rfl; all_goals first | (intro _; exfalso; omega) | intro _) | (apply WO.neq; exact rfl; exact rfl; all_goals first | (intro _; exfalso; omega) | intro _) | (apply WO.pkF; exact rfl; exact rfl) | (apply WO.cll; exact rfl; exact rfl; first | exact q10 _ | exact q22 _ | exact q24 _ | exact q23 _ | exact q25 _ | exact q26 _ | exact q27 _ | exact q29 _ | exact q30 _) | (apply WO.pl; exact rfl; exact rfl) | (apply WO.pp; exact rfl; exact rfl)
      all_goals first | contradiction | skip
      refine W.loop ?_
      unfold b5_0
      repeat' first | apply W.seq | apply SQn | apply W.region | apply WO.nil | apply W.ret | apply W.exit | apply SQe | apply BQe | apply LQe | (apply W.condF; exact rfl) | (apply WO.lss; exact rfl; exact rfl; all_goals first | (intro _; exfalso; omega) | intro _) | (apply WO.cll; exact rfl; exact rfl; first | exact q10 _) | (apply WO.pp; exact rfl; exact rfl)
      all_goals exact hEnd _ rfl rfl
end Go.Ab.Ch6

/-
  Own work: the contracts of FieldRanks as a table.
-/
namespace Go.Ab.Ch6
open Go.Proofs Go.Ab.Sort
variable {h : Heap} {cap c1 c2 : Option Nat}
theorem runC_self {T : List (Nat × Spec)} {g : Nat} {as0 : List AV} {v : AV} {hh : Heap} (hr : Run (mach Tryz.prog FT T) g as0 [] ⟨v, hh, []⟩) (ht : v.top = 0) (hn : nov v = true) (hc : canA v = v) : RunC Tryz.prog FT T g as0 v := ⟨v, hh, hr, .same ht hn, ht, hc⟩
theorem self_place (p : Place) : selfC h (placeC p) := atoms_self rfl
theorem fc_places {l : List Place} {n : Nat} {c : Option Nat} : FrC h (.vs (placesC l) n c) (.vs (placesC l) n c) := .ofVs (selfC_arr self_place l)
theorem fc_place (p : Place) : FrC h (.agg (placeC p)) (.agg (placeC p)) := .agg rfl (self_place p).2
theorem vtop_places (l : List Place) {n : Nat} {c : Option Nat} : (AV.vs (placesC l) n c).top = 0 := topL_arr (fun _ => rfl) l
theorem vtop_ress (l : List Place) {n : Nat} {c : Option Nat} : (AV.vs (ressC l) n c).top = 0 := topL_arr (fun _ => rfl) l
theorem can_places (l : List Place) (n : Nat) : canA (.vs (placesC l) n none) = .vs (placesC l) n none := can_arr (fun _ => rfl) l n
theorem can_ress (l : List Place) (n : Nat) : canA (.vs (ressC l) n none) = .vs (ressC l) n none := can_arr (fun _ => rfl) l n
noncomputable def R1 : List (Nat × Spec) := (145, sC [] 145) :: (124, sC [] 124) :: (89, sC [] 89) :: (79, sC [] 79) :: (30, sC [] 30) :: (29, sC [] 29) :: (80, sC [] 80) :: TD
theorem R1_ok : ExtOK Tryz.prog gl (extS R1) := tab_cons (sC_ok tab_nil) (tab_cons (sC_ok tab_nil) (tab_cons (sC_ok tab_nil) (tab_cons (sC_ok tab_nil) (tab_cons (sC_ok tab_nil) (tab_cons (sC_ok tab_nil) (tab_cons (sC_ok tab_nil) TD_ok))))))
theorem k145 {l : List Int} {v : AV} (hs : Sl inC h v l) (hl : l.length < 1000000) : sC [] 145 [v] h = some ⟨.int .i64 (firstNZ l), h, []⟩ := by
  obtain ⟨c, hf⟩ := FrC.ofSl (fun _ => atoms_self rfl) hs
  exact specC_eq (.cons hf .nil) (.of (w145 (M := m0) mach_ft l hl))
theorem k124 {l : List Int} (h0 : l ≠ []) (hl : l.length < 1000000) : sC [] 124 [.vs (ints l) l.length cap] h = some ⟨.int .i64 (maxF l[0]! (l.drop 1)), h, []⟩ :=
  specC_eq (.cons fc_ints .nil) (.of (w124 (M := m0) mach_ft l h0 hl))
theorem k89 (st ret : Bool) : sC [] 89 [.bool st, .bool ret] h = some ⟨.agg (markC sNone 0 (noWhy (!st) ret)), h, []⟩ :=
  specC_eq (atoms_self rfl) (runC_self (w89 (M := m0) mach_ft st ret) rfl rfl rfl)
theorem k79 (idle ret : Bool) : sC [] 79 [.bool idle, .bool ret] h = some ⟨.agg (markC sNone 0 (noWhy idle ret)), h, []⟩ :=
  specC_eq (atoms_self rfl) (runC_self (w79 (M := m0) mach_ft idle ret) rfl rfl rfl)
theorem k30 {P : List Place} (hP : P.length < 1000000) : sC [] 30 [.vs (placesC P) P.length cap] h = some ⟨.vs (placesC P) P.length none, h, []⟩ :=
  specC_eq (.cons fc_places .nil) (.new (w30 (M := m0) mach_ft P hP) (vtop_places _) (can_places _ _))
theorem k29 {P : List Place} {v : AV} (hs : Sl placeC h v P) (hP : P.length < 1000000) : sC [] 29 [.vs (placesC P) P.length c1, v] h = some ⟨.bool true, h, []⟩ := by
  obtain ⟨c, hf⟩ := FrC.ofSl self_place hs
  exact specC_eq (.cons fc_places (.cons hf .nil)) (.of (w29 (M := m0) mach_ft P hP))
theorem k80 {P : List Place} {v : AV} (hs : Sl placeC h v P) (hP : P.length < 100000) : sC [] 80 [v] h = some ⟨.vs (placesC (orderP P)) (orderP P).length none, h, []⟩ := by
  obtain ⟨c, hf⟩ := FrC.ofSl self_place hs
  exact specC_eq (.cons hf .nil) (.new (w80 (M := m0) mach_ft P hP) (vtop_places _) (can_places _ _))
noncomputable def R2 : List (Nat × Spec) := (144, sC R1 144) :: R1
theorem R2_ok : ExtOK Tryz.prog gl (extS R2) := tab_cons (sC_ok R1_ok) R1_ok
theorem k144 (p q : Place) : sC R1 144 [.agg (placeC p), .agg (placeC q)] h = some ⟨.int .i64 (cfP p q), h, []⟩ :=
  specC_eq (.cons (fc_place p) (.cons (fc_place q) .nil)) (.of (w144 mach_ft (fun x y h => by rw [mach_ext]; exact k142 x y) (fun l v h hs hl => by rw [mach_ext]; exact k145 hs hl) p q))
theorem calls_rk : CRk (mach Tryz.prog FT R2) where
  ft := mach_ft
  n143 ars h := by rw [mach_ext]; rfl
  n193 ars h := by rw [mach_ext]; rfl
  n229 ars h := by rw [mach_ext]; rfl
  n230 ars h := by rw [mach_ext]; rfl
  n253 ars h := by rw [mach_ext]; rfl
  n284 ars h := by rw [mach_ext]; rfl
  n94 ars h := by rw [mach_ext]; rfl
  c144 p q h := by rw [mach_ext]; exact k144 p q
  c123 ls v h hs hl hL := by rw [mach_ext]; exact k123 hs hl hL
  c124 l h h0 hl := by rw [mach_ext]; exact k124 h0 hl
  c89 st ret h := by rw [mach_ext]; exact k89 st ret
noncomputable def R3 : List (Nat × Spec) := (71, sC R2 71) :: (28, sF R2 28) :: R2
theorem R3_ok : ExtOK Tryz.prog gl (extS R3) := tab_cons (sC_ok R2_ok) (tab_cons (sF_ok R2_ok) R2_ok)
theorem k71 {l : List Row} (hl : l.length < 100000) (hL : ∀ r ∈ l, fineT r.tr) : sC R2 71 [.vs (rowsC l) l.length cap] h = some ⟨.vs (placesC (orderP (placesL l))) (orderP (placesL l)).length none, h, []⟩ :=
  specC_eq (.cons fc_rows .nil) (.new (w71 calls_rk l hl hL) (vtop_places _) (can_places _ _))
theorem top_rows1 {l : List Row} : topL [AV.vs (rowsC l) l.length cap] = 0 := by simp only [topL, vtop_rows]; rfl
theorem k28 {l : List Row} (ok : okR l) : sF R2 28 [.vs (rowsC l) l.length cap] h = some ⟨.vs (placesC (orderP (placesL l))) (orderP (placesL l)).length none, h, []⟩ := by
  obtain ⟨v, hh, ⟨B, h1⟩, h2⟩ := w28 (M := mach Tryz.prog FT R2) (cap := cap) mach_ft (fun l v h hs hl hL => by rw [mach_ext]; exact k77 hs hl hL) (fun r h hl => by rw [mach_ext]; exact k78 hl) (fun a b h => by rw [mach_ext]; exact k79 a b) (fun P v h hs hP => by rw [mach_ext]; exact k80 hs hP) l (by have := ok.1; omega) (fun r hr => by have := ok.2 r hr; omega)
  exact specF_eq ⟨v, hh, B, h2, h1, top_rows1, vtop_places _, can_places _ _⟩
noncomputable def R4 : List (Nat × Spec) := (23, sF R3 23) :: (25, sF R3 25) :: R3
theorem R4_ok : ExtOK Tryz.prog gl (extS R4) := tab_cons (sF_ok R3_ok) (tab_cons (sF_ok R3_ok) R3_ok)
theorem calls_rg : CRg (mach Tryz.prog FT R3) where
  ft := mach_ft
  c27 l cap h hL := by rw [mach_ext]; exact k27 hL
  c71 l cap h hl hL := by rw [mach_ext]; exact k71 hl hL
theorem rankT_top {l : List Row} : (rankT l).top = 0 := by
  show topL [_, _] = 0
  simp only [topL, vtop_places]
  rfl
theorem resT_top {l : List Row} : (resT l).top = 0 := by
  show topL [_, _] = 0
  simp only [topL, vtop_ress]
  rfl
theorem rankT_can {l : List Row} : canA (rankT l) = rankT l := by
  simp only [rankT, canA, canL]
  exact congrArg (fun x => AV.tup [x, _]) (can_places _ _)
theorem resT_can {l : List Row} : canA (resT l) = resT l := by
  simp only [resT, canA, canL]
  exact congrArg (fun x => AV.tup [x, _]) (can_ress _ _)
theorem k23 {l : List Row} (ok : okR l) : sF R3 23 [.vs (rowsC l) l.length cap] h = some ⟨rankT l, h, []⟩ := by
  obtain ⟨v, hh, ⟨B, h1⟩, h2⟩ := w23 (cap := cap) calls_rg l (fun r hr => by have := ok.2 r hr; omega)
  exact specF_eq ⟨v, hh, B, h2, h1, top_rows1, rankT_top, rankT_can⟩
theorem k25 {l : List Row} (ok : okR l) : sF R3 25 [.vs (rowsC l) l.length cap] h = some ⟨resT l, h, []⟩ := by
  obtain ⟨v, hh, ⟨B, h1⟩, h2⟩ := w25 (cap := cap) calls_rg l (fun r hr => by have := ok.2 r hr; omega)
  exact specF_eq ⟨v, hh, B, h2, h1, top_rows1, resT_top, resT_can⟩
theorem calls5 : C5 (mach Tryz.prog FT R4) where
  ft := mach_ft
  c10 h := by rw [mach_ext]; rfl
  c22 l h := by rw [mach_ext]; exact k22 l
  c24 l h hl hL := by rw [mach_ext]; exact k24 (by omega) (fun r hr => by have := hL r hr; omega)
  c23 l h ok := by rw [mach_ext]; exact k23 ok
  c25 l h ok := by rw [mach_ext]; exact k25 ok
  c26 l h hL := by rw [mach_ext]; exact k26 (fun r hr => by have := hL r hr; omega)
  c27 l h hL := by rw [mach_ext]; exact k27 (fun r hr => by have := hL r hr; omega)
  c28 l h ok := by rw [mach_ext]; exact k28 ok
  c29 P v h hs hP := by rw [mach_ext]; exact k29 hs hP
  c30 P h hP := by rw [mach_ext]; exact k30 hP
end Go.Ab.Ch6

/-
  Own work: arguments that are contests, as the abstract machine sees them.
-/
namespace Go.Ab.Ch6
open Go.Proofs
open Go.ChangeShapes Go.WideShapes Go.RowKit
variable {H : Type} {enc : TypeId × Value → H} {P : Program} {W : World} {base : Nat} {sp : Nat → Bool} {t e : TypeId} {v : Value} {d : DataW H} {ps : List MemPlace}
end Go.Ab.Ch6
