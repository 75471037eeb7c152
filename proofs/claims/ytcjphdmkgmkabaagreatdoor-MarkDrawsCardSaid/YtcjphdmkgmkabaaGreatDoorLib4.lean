/-
  Own work: slices.SortStableFunc over ints: the merge in place.
-/
import Derived.Test.YtcjphdmkgmkabaaGreatDoorLib3
import Derived.Test.YtcjphdmkgmkabaaGreatDoorLib2
namespace Go.Ab.Ch1
open Go.Ab.Sort
variable {M : Mach} {h : Heap} {b n : Nat} {cap : Option Nat} {g : AV}
variable {key : Int → Int} {ok : Int → Prop} {cf : Int → Int → Int}

theorem getD_mem {l : List Int} {i : Nat} (h : i < l.length) : l[i]! ∈ l := by
  rw [getElem!_pos l i h]; exact List.getElem_mem h
theorem atL {A L R B : List Int} {i : Nat} (h : i < L.length) : (A ++ L ++ R ++ B)[A.length + i]! = L[i]! := by
  rw [List.getElem!_eq_getElem?_getD, List.getElem!_eq_getElem?_getD, List.append_assoc, List.append_assoc, List.getElem?_append_right (by omega), Nat.add_sub_cancel_left, List.getElem?_append_left h]
theorem atR {A L R B : List Int} {i : Nat} (h : i < R.length) : (A ++ L ++ R ++ B)[A.length + L.length + i]! = R[i]! := by
  rw [List.getElem!_eq_getElem?_getD, List.getElem!_eq_getElem?_getD, List.append_assoc, List.getElem?_append_right (by simp), List.length_append, Nat.add_sub_cancel_left, List.getElem?_append_left h]
theorem sd_get {l : List Int} (h : Sd key l) {i j : Nat} (hij : i < j) (hj : j < l.length) : Lt key l[i]! l[j]! := by
  rw [getElem!_pos l i (by omega), getElem!_pos l j hj]
  exact h.get (List.getElem?_eq_getElem (by omega)) (List.getElem?_eq_getElem hj) hij

set_option maxHeartbeats 1000000 in
theorem loop222_0 (hn : n < 2305843009213693952) (hb : b < h.length) (hc : Cmp M h b g ok cf) (l : List Int) (hl : l.length = n) (a m e : Nat) (ha : a < n) (he : e ≤ n) (hok : ∀ k, m ≤ k → k < e → ok l[k]!) (hoa : ok l[a]!) (a2 a3 a8 a9 a10 a11 a12 a13 a14 a15 a16 a17 a18 a19 : AV) (wr : List Nat)
    (hm : ∀ k k', m ≤ k → k < k' → k' < e → cf l[k']! l[a]! < 0 → cf l[k]! l[a]! < 0) {Q : Ex → StW → Prop} : ∀ (r i j : Nat) (a7 : AV) (lo : List (Nat × AV)), j - i ≤ r → m ≤ i → i ≤ j → j ≤ e → (∀ k, m ≤ k → k < i → cf l[k]! l[a]! < 0) → (∀ k, j ≤ k → k < e → ¬ cf l[k]! l[a]! < 0) →
    (∀ (i : Nat) a7 lo, m ≤ i → i ≤ e → (∀ k, m ≤ k → k < i → cf l[k]! l[a]! < 0) → (∀ k, i ≤ k → k < e → ¬ cf l[k]! l[a]! < 0) → Q (.exit 0) ⟨⟨[.sl b 0 n 1 cap, .int .i64 a, a2, a3, g, .int .i64 i, .int .i64 i, a7, a8, a9, a10, a11, a12, a13, a14, a15, a16, a17, a18, a19], lo, h.put b (some (.cells (ints l) 3)), []⟩, wr⟩) →
    W M (.loop b222_0) ⟨⟨[.sl b 0 n 1 cap, .int .i64 a, a2, a3, g, .int .i64 i, .int .i64 j, a7, a8, a9, a10, a11, a12, a13, a14, a15, a16, a17, a18, a19], lo, h.put b (some (.cells (ints l) 3)), []⟩, wr⟩ Q := by
  intro r
  induction r with
  | zero =>
    intro i j a7 lo hr h1 h2 h3 h4 h5 hQ
    obtain rfl : i = j := by omega
    refine W.loop ?_
    unfold b222_0
    repeat' first
      | apply W.seq
      | apply SQn
      | apply W.region
      | apply WO.nil
      | apply W.block
      | apply W.ret
      | apply W.exit
      | apply W.skip
      | apply SQr
      | apply SQe
      | apply BQn
      | apply BQr
      | apply BQe
      | (apply BQo; exact rfl)
      | apply LQe
      | apply LQr
      | (apply W.drawro; exact rfl)
      | apply W.draw
      | apply WD.nil
      | (apply WD.gT; exact rfl)
      | (apply WD.gF; exact rfl)
      | (apply WD.sT; exact rfl)
      | (apply WD.sF; exact rfl)
      | (apply WD.sU; exact rfl)
      | (apply WD.pure1; exact rfl)
      | (apply WD.load1; exact rfl; exact rfl; exact rfl)
      | (apply WD.clb; exact rfl; exact rfl; exact rfl; exact rfl; all_goals first | (intro h; exact absurd h (by decide)) | intro _)
      | (apply WD.cl0; exact rfl; exact rfl; exact rfl; exact rfl)
      | (apply WD.cl1; exact rfl; exact rfl; exact rfl; exact rfl)
      | (apply W.condT; exact rfl)
      | (apply W.condF; exact rfl)
      | (apply W.cond; exact rfl; all_goals intro _)
      | (apply WO.lss; exact rfl; exact rfl; all_goals first | (intro _; exfalso; omega) | intro _)
      | (apply WO.cvu; exact rfl; omega)
      | (apply WO.cvi; exact rfl; omega)
      | (apply WO.shr1; exact rfl)
      | (apply WO.add; exact rfl; exact rfl; omega)
      | (apply WO.iav; exact rfl; exact rfl; omega)
      | (apply WO.ias; exact rfl; exact rfl; omega)
      | (apply WO.lda; exact rfl; exact fun _ => rfl; (first | omega | (simp only [List.length_set]; omega) | (simp; omega)); decide; exact rfl; case ia => infer_instance)
      | (apply WO.lsa; exact rfl; (first | exact rfl | assumption | exact at_new | (apply at_old; assumption) | (apply at_put; first | assumption | (simp only [put_length]; assumption))); exact fun _ => rfl; (first | omega | (simp only [List.length_set]; omega) | (simp; omega)); decide; exact rfl; case ia => infer_instance)
      | (apply WO.clb; exact rfl; exact rfl; exact rfl; all_goals first | (intro h; exact absurd h (by decide)) | intro _)
      | (apply WO.cll; exact rfl; exact rfl; exact rfl)
      | (apply WO.hlv; exact rfl; exact rfl; exact rfl)
      | (apply WO.hpv; exact rfl; exact rfl; exact rfl)
      | (apply WO.hnv; exact rfl; exact rfl; exact rfl)
      | (apply WO.pl; exact rfl; exact rfl)
      | (apply WO.pp; exact rfl; exact rfl)
    · exact hQ i _ _ h1 h3 h4 h5
  | succ r ih =>
    intro i j a7 lo hr h1 h2 h3 h4 h5 hQ
    refine W.loop ?_
    rcases Nat.eq_or_lt_of_le h2 with rfl | hlt
    · unfold b222_0
      repeat' first
        | apply W.seq
        | apply SQn
        | apply W.region
        | apply WO.nil
        | apply W.block
        | apply W.ret
        | apply W.exit
        | apply W.skip
        | apply SQr
        | apply SQe
        | apply BQn
        | apply BQr
        | apply BQe
        | (apply BQo; exact rfl)
        | apply LQe
        | apply LQr
        | (apply W.drawro; exact rfl)
        | apply W.draw
        | apply WD.nil
        | (apply WD.gT; exact rfl)
        | (apply WD.gF; exact rfl)
        | (apply WD.sT; exact rfl)
        | (apply WD.sF; exact rfl)
        | (apply WD.sU; exact rfl)
        | (apply WD.pure1; exact rfl)
        | (apply WD.load1; exact rfl; exact rfl; exact rfl)
        | (apply WD.clb; exact rfl; exact rfl; exact rfl; exact rfl; all_goals first | (intro h; exact absurd h (by decide)) | intro _)
        | (apply WD.cl0; exact rfl; exact rfl; exact rfl; exact rfl)
        | (apply WD.cl1; exact rfl; exact rfl; exact rfl; exact rfl)
        | (apply W.condT; exact rfl)
        | (apply W.condF; exact rfl)
        | (apply W.cond; exact rfl; all_goals intro _)
        | (apply WO.lss; exact rfl; exact rfl; all_goals first | (intro _; exfalso; omega) | intro _)
        | (apply WO.cvu; exact rfl; omega)
        | (apply WO.cvi; exact rfl; omega)
        | (apply WO.shr1; exact rfl)
        | (apply WO.add; exact rfl; exact rfl; omega)
        | (apply WO.iav; exact rfl; exact rfl; omega)
        | (apply WO.ias; exact rfl; exact rfl; omega)
        | (apply WO.lda; exact rfl; exact fun _ => rfl; (first | omega | (simp only [List.length_set]; omega) | (simp; omega)); decide; exact rfl; case ia => infer_instance)
        | (apply WO.lsa; exact rfl; (first | exact rfl | assumption | exact at_new | (apply at_old; assumption) | (apply at_put; first | assumption | (simp only [put_length]; assumption))); exact fun _ => rfl; (first | omega | (simp only [List.length_set]; omega) | (simp; omega)); decide; exact rfl; case ia => infer_instance)
        | (apply WO.clb; exact rfl; exact rfl; exact rfl; all_goals first | (intro h; exact absurd h (by decide)) | intro _)
        | (apply WO.cll; exact rfl; exact rfl; exact rfl)
        | (apply WO.hlv; exact rfl; exact rfl; exact rfl)
        | (apply WO.hpv; exact rfl; exact rfl; exact rfl)
        | (apply WO.hnv; exact rfl; exact rfl; exact rfl)
        | (apply WO.pl; exact rfl; exact rfl)
        | (apply WO.pp; exact rfl; exact rfl)
      · exact hQ i _ _ h1 h3 h4 h5
    · obtain ⟨H, hH⟩ : ∃ H, H = (i + j) / 2 := ⟨_, rfl⟩
      have eH : ((i : Int) + (j : Int)) / 2 = (H : Int) := by omega
      have eH' : (((i : Int) + (j : Int)) / 2).toNat = H := by omega
      have ea : ((a : Int)).toNat = a := by omega
      have hHl : (((i : Int) + (j : Int)) / 2).toNat < l.length := by omega
      have hal : ((a : Int)).toNat < l.length := by omega
      have hcc : CT M g [.int .i64 l[(((i : Int) + (j : Int)) / 2).toNat]!, .int .i64 l[((a : Int)).toNat]!] (h.put b (some (.cells (ints l) 3))) ⟨.int .i64 (cf l[H]! l[a]!), h.put b (some (.cells (ints l) 3)), []⟩ := by
        rw [eH', ea]; exact hc _ _ _ (hok H (by omega) (by omega)) hoa
      by_cases hd : cf l[H]! l[a]! < 0
      · unfold b222_0
        repeat' first
          | apply W.seq
          | apply SQn
          | apply W.region
          | apply WO.nil
          | apply W.block
          | apply W.ret
          | apply W.exit
          | apply W.skip
          | apply SQr
          | apply SQe
          | apply BQn
          | apply BQr
          | apply BQe
          | (apply BQo; exact rfl)
          | apply LQe
          | apply LQr
          | (apply W.drawro; exact rfl)
          | apply W.draw
          | apply WD.nil
          | (apply WD.gT; exact rfl)
          | (apply WD.gF; exact rfl)
          | (apply WD.sT; exact rfl)
          | (apply WD.sF; exact rfl)
          | (apply WD.sU; exact rfl)
          | (apply WD.pure1; exact rfl)
          | (apply WD.load1; exact rfl; exact rfl; exact rfl)
          | (apply WD.clb; exact rfl; exact rfl; exact rfl; exact rfl; all_goals first | (intro h; exact absurd h (by decide)) | intro _)
          | (apply WD.cl0; exact rfl; exact rfl; exact rfl; exact rfl)
          | (apply WD.cl1; exact rfl; exact rfl; exact rfl; exact rfl)
          | (apply W.condT; exact rfl)
          | (apply W.condF; exact rfl)
          | (apply W.cond; exact rfl; all_goals intro _)
          | (apply WO.lss; exact rfl; exact rfl; all_goals first | (intro _; exfalso; omega) | intro _)
          | (apply WO.cvu; exact rfl; omega)
          | (apply WO.cvi; exact rfl; omega)
          | (apply WO.shr1; exact rfl)
          | (apply WO.add; exact rfl; exact rfl; omega)
          | (apply WO.ct; exact rfl; exact rfl; first | exact hcc)
          | (apply WO.ctn; exact rfl; exact rfl; first | exact hcc)
          | (apply WD.ct; exact rfl; exact rfl; exact rfl; first | exact hcc)
          | (apply WO.iav; exact rfl; exact rfl; omega)
          | (apply WO.ias; exact rfl; exact rfl; omega)
          | (apply WO.lda; exact rfl; exact fun _ => rfl; (first | omega | (simp only [List.length_set]; omega) | (simp; omega)); decide; exact rfl; case ia => infer_instance)
          | (apply WO.lsa; exact rfl; (first | exact rfl | assumption | exact at_new | (apply at_old; assumption) | (apply at_put; first | assumption | (simp only [put_length]; assumption))); exact fun _ => rfl; (first | omega | (simp only [List.length_set]; omega) | (simp; omega)); decide; exact rfl; case ia => infer_instance)
          | (apply WO.clb; exact rfl; exact rfl; exact rfl; all_goals first | (intro h; exact absurd h (by decide)) | intro _)
          | (apply WO.cll; exact rfl; exact rfl; exact rfl)
          | (apply WO.hlv; exact rfl; exact rfl; exact rfl)
          | (apply WO.hpv; exact rfl; exact rfl; exact rfl)
          | (apply WO.hnv; exact rfl; exact rfl; exact rfl)
          | (apply WO.pl; exact rfl; exact rfl)
          | (apply WO.pp; exact rfl; exact rfl)
        refine LQn ?_
        rw [eH]
        exact ih (H + 1) j _ _ (by omega) (by omega) (by omega) h3 (fun k hk1 hk2 => by
          rcases Nat.lt_or_eq_of_le (Nat.le_of_lt_succ hk2) with hk | rfl
          · exact hm k H hk1 hk (by omega) hd
          · exact hd) h5 hQ
      · unfold b222_0
        repeat' first
          | apply W.seq
          | apply SQn
          | apply W.region
          | apply WO.nil
          | apply W.block
          | apply W.ret
          | apply W.exit
          | apply W.skip
          | apply SQr
          | apply SQe
          | apply BQn
          | apply BQr
          | apply BQe
          | (apply BQo; exact rfl)
          | apply LQe
          | apply LQr
          | (apply W.drawro; exact rfl)
          | apply W.draw
          | apply WD.nil
          | (apply WD.gT; exact rfl)
          | (apply WD.gF; exact rfl)
          | (apply WD.sT; exact rfl)
          | (apply WD.sF; exact rfl)
          | (apply WD.sU; exact rfl)
          | (apply WD.pure1; exact rfl)
          | (apply WD.load1; exact rfl; exact rfl; exact rfl)
          | (apply WD.clb; exact rfl; exact rfl; exact rfl; exact rfl; all_goals first | (intro h; exact absurd h (by decide)) | intro _)
          | (apply WD.cl0; exact rfl; exact rfl; exact rfl; exact rfl)
          | (apply WD.cl1; exact rfl; exact rfl; exact rfl; exact rfl)
          | (apply W.condT; exact rfl)
          | (apply W.condF; exact rfl)
          | (apply W.cond; exact rfl; all_goals intro _)
          | (apply WO.lss; exact rfl; exact rfl; all_goals first | (intro _; exfalso; omega) | intro _)
          | (apply WO.cvu; exact rfl; omega)
          | (apply WO.cvi; exact rfl; omega)
          | (apply WO.shr1; exact rfl)
          | (apply WO.add; exact rfl; exact rfl; omega)
          | (apply WO.ct; exact rfl; exact rfl; first | exact hcc)
          | (apply WO.ctn; exact rfl; exact rfl; first | exact hcc)
          | (apply WD.ct; exact rfl; exact rfl; exact rfl; first | exact hcc)
          | (apply WO.iav; exact rfl; exact rfl; omega)
          | (apply WO.ias; exact rfl; exact rfl; omega)
          | (apply WO.lda; exact rfl; exact fun _ => rfl; (first | omega | (simp only [List.length_set]; omega) | (simp; omega)); decide; exact rfl; case ia => infer_instance)
          | (apply WO.lsa; exact rfl; (first | exact rfl | assumption | exact at_new | (apply at_old; assumption) | (apply at_put; first | assumption | (simp only [put_length]; assumption))); exact fun _ => rfl; (first | omega | (simp only [List.length_set]; omega) | (simp; omega)); decide; exact rfl; case ia => infer_instance)
          | (apply WO.clb; exact rfl; exact rfl; exact rfl; all_goals first | (intro h; exact absurd h (by decide)) | intro _)
          | (apply WO.cll; exact rfl; exact rfl; exact rfl)
          | (apply WO.hlv; exact rfl; exact rfl; exact rfl)
          | (apply WO.hpv; exact rfl; exact rfl; exact rfl)
          | (apply WO.hnv; exact rfl; exact rfl; exact rfl)
          | (apply WO.pl; exact rfl; exact rfl)
          | (apply WO.pp; exact rfl; exact rfl)
        refine LQn ?_
        rw [eH]
        exact ih i H _ _ (by omega) h1 (by omega) (by omega) h4 (fun k hk1 hk2 => by
          rcases Nat.lt_or_eq_of_le hk1 with hk | rfl
          · exact fun hd' => hd (hm H k (by omega) hk hk2 hd')
          · exact hd) hQ
set_option maxHeartbeats 1000000 in
theorem loop222_2 (hn : n < 2305843009213693952) (hb : b < h.length) (hc : Cmp M h b g ok cf) (l : List Int) (hl : l.length = n) (a m e : Nat) (ha : a < n) (he : e ≤ n) (hok : ∀ k, m ≤ k → k < e → ok l[k]!) (hoa : ok l[a]!) (a1 a3 a5 a6 a7 a8 a12 a13 a14 a15 a16 a17 a18 a19 : AV) (wr : List Nat)
    (hm : ∀ k k', m ≤ k → k < k' → k' < e → ¬ cf l[a]! l[k']! < 0 → ¬ cf l[a]! l[k]! < 0) {Q : Ex → StW → Prop} : ∀ (r i j : Nat) (a11 : AV) (lo : List (Nat × AV)), j - i ≤ r → m ≤ i → i ≤ j → j ≤ e → (∀ k, m ≤ k → k < i → ¬ cf l[a]! l[k]! < 0) → (∀ k, j ≤ k → k < e → cf l[a]! l[k]! < 0) →
    (∀ (i : Nat) a11 lo, m ≤ i → i ≤ e → (∀ k, m ≤ k → k < i → ¬ cf l[a]! l[k]! < 0) → (∀ k, i ≤ k → k < e → cf l[a]! l[k]! < 0) → Q (.exit 4) ⟨⟨[.sl b 0 n 1 cap, a1, .int .i64 a, a3, g, a5, a6, a7, a8, .int .i64 i, .int .i64 i, a11, a12, a13, a14, a15, a16, a17, a18, a19], lo, h.put b (some (.cells (ints l) 3)), []⟩, wr⟩) →
    W M (.loop b222_2) ⟨⟨[.sl b 0 n 1 cap, a1, .int .i64 a, a3, g, a5, a6, a7, a8, .int .i64 i, .int .i64 j, a11, a12, a13, a14, a15, a16, a17, a18, a19], lo, h.put b (some (.cells (ints l) 3)), []⟩, wr⟩ Q := by
  intro r
  induction r with
  | zero =>
    intro i j a11 lo hr h1 h2 h3 h4 h5 hQ
    obtain rfl : i = j := by omega
    refine W.loop ?_
    unfold b222_2
    repeat' first
      | apply W.seq
      | apply SQn
      | apply W.region
      | apply WO.nil
      | apply W.block
      | apply W.ret
      | apply W.exit
      | apply W.skip
      | apply SQr
      | apply SQe
      | apply BQn
      | apply BQr
      | apply BQe
      | (apply BQo; exact rfl)
      | apply LQe
      | apply LQr
      | (apply W.drawro; exact rfl)
      | apply W.draw
      | apply WD.nil
      | (apply WD.gT; exact rfl)
      | (apply WD.gF; exact rfl)
      | (apply WD.sT; exact rfl)
      | (apply WD.sF; exact rfl)
      | (apply WD.sU; exact rfl)
      | (apply WD.pure1; exact rfl)
      | (apply WD.load1; exact rfl; exact rfl; exact rfl)
      | (apply WD.clb; exact rfl; exact rfl; exact rfl; exact rfl; all_goals first | (intro h; exact absurd h (by decide)) | intro _)
      | (apply WD.cl0; exact rfl; exact rfl; exact rfl; exact rfl)
      | (apply WD.cl1; exact rfl; exact rfl; exact rfl; exact rfl)
      | (apply W.condT; exact rfl)
      | (apply W.condF; exact rfl)
      | (apply W.cond; exact rfl; all_goals intro _)
      | (apply WO.lss; exact rfl; exact rfl; all_goals first | (intro _; exfalso; omega) | intro _)
      | (apply WO.cvu; exact rfl; omega)
      | (apply WO.cvi; exact rfl; omega)
      | (apply WO.shr1; exact rfl)
      | (apply WO.add; exact rfl; exact rfl; omega)
      | (apply WO.iav; exact rfl; exact rfl; omega)
      | (apply WO.ias; exact rfl; exact rfl; omega)
      | (apply WO.lda; exact rfl; exact fun _ => rfl; (first | omega | (simp only [List.length_set]; omega) | (simp; omega)); decide; exact rfl; case ia => infer_instance)
      | (apply WO.lsa; exact rfl; (first | exact rfl | assumption | exact at_new | (apply at_old; assumption) | (apply at_put; first | assumption | (simp only [put_length]; assumption))); exact fun _ => rfl; (first | omega | (simp only [List.length_set]; omega) | (simp; omega)); decide; exact rfl; case ia => infer_instance)
      | (apply WO.clb; exact rfl; exact rfl; exact rfl; all_goals first | (intro h; exact absurd h (by decide)) | intro _)
      | (apply WO.cll; exact rfl; exact rfl; exact rfl)
      | (apply WO.hlv; exact rfl; exact rfl; exact rfl)
      | (apply WO.hpv; exact rfl; exact rfl; exact rfl)
      | (apply WO.hnv; exact rfl; exact rfl; exact rfl)
      | (apply WO.pl; exact rfl; exact rfl)
      | (apply WO.pp; exact rfl; exact rfl)
    · exact hQ i _ _ h1 h3 h4 h5
  | succ r ih =>
    intro i j a11 lo hr h1 h2 h3 h4 h5 hQ
    refine W.loop ?_
    rcases Nat.eq_or_lt_of_le h2 with rfl | hlt
    · unfold b222_2
      repeat' first
        | apply W.seq
        | apply SQn
        | apply W.region
        | apply WO.nil
        | apply W.block
        | apply W.ret
        | apply W.exit
        | apply W.skip
        | apply SQr
        | apply SQe
        | apply BQn
        | apply BQr
        | apply BQe
        | (apply BQo; exact rfl)
        | apply LQe
        | apply LQr
        | (apply W.drawro; exact rfl)
        | apply W.draw
        | apply WD.nil
        | (apply WD.gT; exact rfl)
        | (apply WD.gF; exact rfl)
        | (apply WD.sT; exact rfl)
        | (apply WD.sF; exact rfl)
        | (apply WD.sU; exact rfl)
        | (apply WD.pure1; exact rfl)
        | (apply WD.load1; exact rfl; exact rfl; exact rfl)
        | (apply WD.clb; exact rfl; exact rfl; exact rfl; exact rfl; all_goals first | (intro h; exact absurd h (by decide)) | intro _)
        | (apply WD.cl0; exact rfl; exact rfl; exact rfl; exact rfl)
        | (apply WD.cl1; exact rfl; exact rfl; exact rfl; exact rfl)
        | (apply W.condT; exact rfl)
        | (apply W.condF; exact rfl)
        | (apply W.cond; exact rfl; all_goals intro _)
        | (apply WO.lss; exact rfl; exact rfl; all_goals first | (intro _; exfalso; omega) | intro _)
        | (apply WO.cvu; exact rfl; omega)
        | (apply WO.cvi; exact rfl; omega)
        | (apply WO.shr1; exact rfl)
        | (apply WO.add; exact rfl; exact rfl; omega)
        | (apply WO.iav; exact rfl; exact rfl; omega)
        | (apply WO.ias; exact rfl; exact rfl; omega)
        | (apply WO.lda; exact rfl; exact fun _ => rfl; (first | omega | (simp only [List.length_set]; omega) | (simp; omega)); decide; exact rfl; case ia => infer_instance)
        | (apply WO.lsa; exact rfl; (first | exact rfl | assumption | exact at_new | (apply at_old; assumption) | (apply at_put; first | assumption | (simp only [put_length]; assumption))); exact fun _ => rfl; (first | omega | (simp only [List.length_set]; omega) | (simp; omega)); decide; exact rfl; case ia => infer_instance)
        | (apply WO.clb; exact rfl; exact rfl; exact rfl; all_goals first | (intro h; exact absurd h (by decide)) | intro _)
        | (apply WO.cll; exact rfl; exact rfl; exact rfl)
        | (apply WO.hlv; exact rfl; exact rfl; exact rfl)
        | (apply WO.hpv; exact rfl; exact rfl; exact rfl)
        | (apply WO.hnv; exact rfl; exact rfl; exact rfl)
        | (apply WO.pl; exact rfl; exact rfl)
        | (apply WO.pp; exact rfl; exact rfl)
      · exact hQ i _ _ h1 h3 h4 h5
    · obtain ⟨H, hH⟩ : ∃ H, H = (i + j) / 2 := ⟨_, rfl⟩
      have eH : ((i : Int) + (j : Int)) / 2 = (H : Int) := by omega
      have eH' : (((i : Int) + (j : Int)) / 2).toNat = H := by omega
      have ea : ((a : Int)).toNat = a := by omega
      have hHl : (((i : Int) + (j : Int)) / 2).toNat < l.length := by omega
      have hal : ((a : Int)).toNat < l.length := by omega
      have hcc : CT M g [.int .i64 l[((a : Int)).toNat]!, .int .i64 l[(((i : Int) + (j : Int)) / 2).toNat]!] (h.put b (some (.cells (ints l) 3))) ⟨.int .i64 (cf l[a]! l[H]!), h.put b (some (.cells (ints l) 3)), []⟩ := by
        rw [eH', ea]; exact hc _ _ _ hoa (hok H (by omega) (by omega))
      by_cases hd : ¬ cf l[a]! l[H]! < 0
      · unfold b222_2
        repeat' first
          | apply W.seq
          | apply SQn
          | apply W.region
          | apply WO.nil
          | apply W.block
          | apply W.ret
          | apply W.exit
          | apply W.skip
          | apply SQr
          | apply SQe
          | apply BQn
          | apply BQr
          | apply BQe
          | (apply BQo; exact rfl)
          | apply LQe
          | apply LQr
          | (apply W.drawro; exact rfl)
          | apply W.draw
          | apply WD.nil
          | (apply WD.gT; exact rfl)
          | (apply WD.gF; exact rfl)
          | (apply WD.sT; exact rfl)
          | (apply WD.sF; exact rfl)
          | (apply WD.sU; exact rfl)
          | (apply WD.pure1; exact rfl)
          | (apply WD.load1; exact rfl; exact rfl; exact rfl)
          | (apply WD.clb; exact rfl; exact rfl; exact rfl; exact rfl; all_goals first | (intro h; exact absurd h (by decide)) | intro _)
          | (apply WD.cl0; exact rfl; exact rfl; exact rfl; exact rfl)
          | (apply WD.cl1; exact rfl; exact rfl; exact rfl; exact rfl)
          | (apply W.condT; exact rfl)
          | (apply W.condF; exact rfl)
          | (apply W.cond; exact rfl; all_goals intro _)
          | (apply WO.lss; exact rfl; exact rfl; all_goals first | (intro _; exfalso; omega) | intro _)
          | (apply WO.cvu; exact rfl; omega)
          | (apply WO.cvi; exact rfl; omega)
          | (apply WO.shr1; exact rfl)
          | (apply WO.add; exact rfl; exact rfl; omega)
          | (apply WO.ct; exact rfl; exact rfl; first | exact hcc)
          | (apply WO.ctn; exact rfl; exact rfl; first | exact hcc)
          | (apply WD.ct; exact rfl; exact rfl; exact rfl; first | exact hcc)
          | (apply WO.iav; exact rfl; exact rfl; omega)
          | (apply WO.ias; exact rfl; exact rfl; omega)
          | (apply WO.lda; exact rfl; exact fun _ => rfl; (first | omega | (simp only [List.length_set]; omega) | (simp; omega)); decide; exact rfl; case ia => infer_instance)
          | (apply WO.lsa; exact rfl; (first | exact rfl | assumption | exact at_new | (apply at_old; assumption) | (apply at_put; first | assumption | (simp only [put_length]; assumption))); exact fun _ => rfl; (first | omega | (simp only [List.length_set]; omega) | (simp; omega)); decide; exact rfl; case ia => infer_instance)
          | (apply WO.clb; exact rfl; exact rfl; exact rfl; all_goals first | (intro h; exact absurd h (by decide)) | intro _)
          | (apply WO.cll; exact rfl; exact rfl; exact rfl)
          | (apply WO.hlv; exact rfl; exact rfl; exact rfl)
          | (apply WO.hpv; exact rfl; exact rfl; exact rfl)
          | (apply WO.hnv; exact rfl; exact rfl; exact rfl)
          | (apply WO.pl; exact rfl; exact rfl)
          | (apply WO.pp; exact rfl; exact rfl)
        refine LQn ?_
        rw [eH]
        exact ih (H + 1) j _ _ (by omega) (by omega) (by omega) h3 (fun k hk1 hk2 => by
          rcases Nat.lt_or_eq_of_le (Nat.le_of_lt_succ hk2) with hk | rfl
          · exact hm k H hk1 hk (by omega) hd
          · exact hd) h5 hQ
      · unfold b222_2
        repeat' first
          | apply W.seq
          | apply SQn
          | apply W.region
          | apply WO.nil
          | apply W.block
          | apply W.ret
          | apply W.exit
          | apply W.skip
          | apply SQr
          | apply SQe
          | apply BQn
          | apply BQr
          | apply BQe
          | (apply BQo; exact rfl)
          | apply LQe
          | apply LQr
          | (apply W.drawro; exact rfl)
          | apply W.draw
          | apply WD.nil
          | (apply WD.gT; exact rfl)
          | (apply WD.gF; exact rfl)
          | (apply WD.sT; exact rfl)
          | (apply WD.sF; exact rfl)
          | (apply WD.sU; exact rfl)
          | (apply WD.pure1; exact rfl)
          | (apply WD.load1; exact rfl; exact rfl; exact rfl)
          | (apply WD.clb; exact rfl; exact rfl; exact rfl; exact rfl; all_goals first | (intro h; exact absurd h (by decide)) | intro _)
          | (apply WD.cl0; exact rfl; exact rfl; exact rfl; exact rfl)
          | (apply WD.cl1; exact rfl; exact rfl; exact rfl; exact rfl)
          | (apply W.condT; exact rfl)
          | (apply W.condF; exact rfl)
          | (apply W.cond; exact rfl; all_goals intro _)
          | (apply WO.lss; exact rfl; exact rfl; all_goals first | (intro _; exfalso; omega) | intro _)
          | (apply WO.cvu; exact rfl; omega)
          | (apply WO.cvi; exact rfl; omega)
          | (apply WO.shr1; exact rfl)
          | (apply WO.add; exact rfl; exact rfl; omega)
          | (apply WO.ct; exact rfl; exact rfl; first | exact hcc)
          | (apply WO.ctn; exact rfl; exact rfl; first | exact hcc)
          | (apply WD.ct; exact rfl; exact rfl; exact rfl; first | exact hcc)
          | (apply WO.iav; exact rfl; exact rfl; omega)
          | (apply WO.ias; exact rfl; exact rfl; omega)
          | (apply WO.lda; exact rfl; exact fun _ => rfl; (first | omega | (simp only [List.length_set]; omega) | (simp; omega)); decide; exact rfl; case ia => infer_instance)
          | (apply WO.lsa; exact rfl; (first | exact rfl | assumption | exact at_new | (apply at_old; assumption) | (apply at_put; first | assumption | (simp only [put_length]; assumption))); exact fun _ => rfl; (first | omega | (simp only [List.length_set]; omega) | (simp; omega)); decide; exact rfl; case ia => infer_instance)
          | (apply WO.clb; exact rfl; exact rfl; exact rfl; all_goals first | (intro h; exact absurd h (by decide)) | intro _)
          | (apply WO.cll; exact rfl; exact rfl; exact rfl)
          | (apply WO.hlv; exact rfl; exact rfl; exact rfl)
          | (apply WO.hpv; exact rfl; exact rfl; exact rfl)
          | (apply WO.hnv; exact rfl; exact rfl; exact rfl)
          | (apply WO.pl; exact rfl; exact rfl)
          | (apply WO.pp; exact rfl; exact rfl)
        refine LQn ?_
        rw [eH]
        exact ih i H _ _ (by omega) h1 (by omega) (by omega) h4 (fun k hk1 hk2 => by
          rcases Nat.lt_or_eq_of_le hk1 with hk | rfl
          · exact Decidable.byContradiction fun hd' => hd (hm H k (by omega) hk hk2 hd')
          · exact Decidable.byContradiction hd) hQ
set_option maxHeartbeats 1000000 in
theorem loop222_4 (hn : n < 2305843009213693952) (hb : b < h.length) (hc : Cmp M h b g ok cf) (l : List Int) (hl : l.length = n) (p m e : Nat) (he : e ≤ n) (hp : p < n + m) (hep : e ≤ p + 1) (hok : ∀ k, m ≤ k → k < e → ok l[k]! ∧ ok l[p - k]!) (a1 a2 a3 a5 a6 a7 a8 a9 a10 a11 a12 a13 a14 a19 : AV) (wr : List Nat)
    (hm : ∀ k k', m ≤ k → k < k' → k' < e → ¬ cf l[p - k']! l[k']! < 0 → ¬ cf l[p - k]! l[k]! < 0) {Q : Ex → StW → Prop} : ∀ (r i j : Nat) (a18 : AV) (lo : List (Nat × AV)), j - i ≤ r → m ≤ i → i ≤ j → j ≤ e → (∀ k, m ≤ k → k < i → ¬ cf l[p - k]! l[k]! < 0) → (∀ k, j ≤ k → k < e → cf l[p - k]! l[k]! < 0) →
    (∀ (i : Nat) a18 lo, m ≤ i → i ≤ e → (∀ k, m ≤ k → k < i → ¬ cf l[p - k]! l[k]! < 0) → (∀ k, i ≤ k → k < e → cf l[p - k]! l[k]! < 0) → Q (.exit 8) ⟨⟨[.sl b 0 n 1 cap, a1, a2, a3, g, a5, a6, a7, a8, a9, a10, a11, a12, a13, a14, .int .i64 i, .int .i64 i, .int .i64 p, a18, a19], lo, h.put b (some (.cells (ints l) 3)), []⟩, wr⟩) →
    W M (.loop b222_4) ⟨⟨[.sl b 0 n 1 cap, a1, a2, a3, g, a5, a6, a7, a8, a9, a10, a11, a12, a13, a14, .int .i64 i, .int .i64 j, .int .i64 p, a18, a19], lo, h.put b (some (.cells (ints l) 3)), []⟩, wr⟩ Q := by
  intro r
  induction r with
  | zero =>
    intro i j a18 lo hr h1 h2 h3 h4 h5 hQ
    obtain rfl : i = j := by omega
    refine W.loop ?_
    unfold b222_4
    repeat' first
      | apply W.seq
      | apply SQn
      | apply W.region
      | apply WO.nil
      | apply W.block
      | apply W.ret
      | apply W.exit
      | apply W.skip
      | apply SQr
      | apply SQe
      | apply BQn
      | apply BQr
      | apply BQe
      | (apply BQo; exact rfl)
      | apply LQe
      | apply LQr
      | (apply W.drawro; exact rfl)
      | apply W.draw
      | apply WD.nil
      | (apply WD.gT; exact rfl)
      | (apply WD.gF; exact rfl)
      | (apply WD.sT; exact rfl)
      | (apply WD.sF; exact rfl)
      | (apply WD.sU; exact rfl)
      | (apply WD.pure1; exact rfl)
      | (apply WD.load1; exact rfl; exact rfl; exact rfl)
      | (apply WD.clb; exact rfl; exact rfl; exact rfl; exact rfl; all_goals first | (intro h; exact absurd h (by decide)) | intro _)
      | (apply WD.cl0; exact rfl; exact rfl; exact rfl; exact rfl)
      | (apply WD.cl1; exact rfl; exact rfl; exact rfl; exact rfl)
      | (apply W.condT; exact rfl)
      | (apply W.condF; exact rfl)
      | (apply W.cond; exact rfl; all_goals intro _)
      | (apply WO.lss; exact rfl; exact rfl; all_goals first | (intro _; exfalso; omega) | intro _)
      | (apply WO.cvu; exact rfl; omega)
      | (apply WO.cvi; exact rfl; omega)
      | (apply WO.shr1; exact rfl)
      | (apply WO.add; exact rfl; exact rfl; omega)
      | (apply WO.sub; exact rfl; exact rfl; omega)
      | (apply WO.iav; exact rfl; exact rfl; omega)
      | (apply WO.ias; exact rfl; exact rfl; omega)
      | (apply WO.lda; exact rfl; exact fun _ => rfl; (first | omega | (simp only [List.length_set]; omega) | (simp; omega)); decide; exact rfl; case ia => infer_instance)
      | (apply WO.lsa; exact rfl; (first | exact rfl | assumption | exact at_new | (apply at_old; assumption) | (apply at_put; first | assumption | (simp only [put_length]; assumption))); exact fun _ => rfl; (first | omega | (simp only [List.length_set]; omega) | (simp; omega)); decide; exact rfl; case ia => infer_instance)
      | (apply WO.clb; exact rfl; exact rfl; exact rfl; all_goals first | (intro h; exact absurd h (by decide)) | intro _)
      | (apply WO.cll; exact rfl; exact rfl; exact rfl)
      | (apply WO.hlv; exact rfl; exact rfl; exact rfl)
      | (apply WO.hpv; exact rfl; exact rfl; exact rfl)
      | (apply WO.hnv; exact rfl; exact rfl; exact rfl)
      | (apply WO.pl; exact rfl; exact rfl)
      | (apply WO.pp; exact rfl; exact rfl)
    · exact hQ i _ _ h1 h3 h4 h5
  | succ r ih =>
    intro i j a18 lo hr h1 h2 h3 h4 h5 hQ
    refine W.loop ?_
    rcases Nat.eq_or_lt_of_le h2 with rfl | hlt
    · unfold b222_4
      repeat' first
        | apply W.seq
        | apply SQn
        | apply W.region
        | apply WO.nil
        | apply W.block
        | apply W.ret
        | apply W.exit
        | apply W.skip
        | apply SQr
        | apply SQe
        | apply BQn
        | apply BQr
        | apply BQe
        | (apply BQo; exact rfl)
        | apply LQe
        | apply LQr
        | (apply W.drawro; exact rfl)
        | apply W.draw
        | apply WD.nil
        | (apply WD.gT; exact rfl)
        | (apply WD.gF; exact rfl)
        | (apply WD.sT; exact rfl)
        | (apply WD.sF; exact rfl)
        | (apply WD.sU; exact rfl)
        | (apply WD.pure1; exact rfl)
        | (apply WD.load1; exact rfl; exact rfl; exact rfl)
        | (apply WD.clb; exact rfl; exact rfl; exact rfl; exact rfl; all_goals first | (intro h; exact absurd h (by decide)) | intro _)
        | (apply WD.cl0; exact rfl; exact rfl; exact rfl; exact rfl)
        | (apply WD.cl1; exact rfl; exact rfl; exact rfl; exact rfl)
        | (apply W.condT; exact rfl)
        | (apply W.condF; exact rfl)
        | (apply W.cond; exact rfl; all_goals intro _)
        | (apply WO.lss; exact rfl; exact rfl; all_goals first | (intro _; exfalso; omega) | intro _)
        | (apply WO.cvu; exact rfl; omega)
        | (apply WO.cvi; exact rfl; omega)
        | (apply WO.shr1; exact rfl)
        | (apply WO.add; exact rfl; exact rfl; omega)
        | (apply WO.sub; exact rfl; exact rfl; omega)
        | (apply WO.iav; exact rfl; exact rfl; omega)
        | (apply WO.ias; exact rfl; exact rfl; omega)
        | (apply WO.lda; exact rfl; exact fun _ => rfl; (first | omega | (simp only [List.length_set]; omega) | (simp; omega)); decide; exact rfl; case ia => infer_instance)
        | (apply WO.lsa; exact rfl; (first | exact rfl | assumption | exact at_new | (apply at_old; assumption) | (apply at_put; first | assumption | (simp only [put_length]; assumption))); exact fun _ => rfl; (first | omega | (simp only [List.length_set]; omega) | (simp; omega)); decide; exact rfl; case ia => infer_instance)
        | (apply WO.clb; exact rfl; exact rfl; exact rfl; all_goals first | (intro h; exact absurd h (by decide)) | intro _)
        | (apply WO.cll; exact rfl; exact rfl; exact rfl)
        | (apply WO.hlv; exact rfl; exact rfl; exact rfl)
        | (apply WO.hpv; exact rfl; exact rfl; exact rfl)
        | (apply WO.hnv; exact rfl; exact rfl; exact rfl)
        | (apply WO.pl; exact rfl; exact rfl)
        | (apply WO.pp; exact rfl; exact rfl)
      · exact hQ i _ _ h1 h3 h4 h5
    · obtain ⟨H, hH⟩ : ∃ H, H = (i + j) / 2 := ⟨_, rfl⟩
      have eH : ((i : Int) + (j : Int)) / 2 = (H : Int) := by omega
      have eH' : (((i : Int) + (j : Int)) / 2).toNat = H := by omega
      have ep : ((p : Int) - (((i : Int) + (j : Int)) / 2)).toNat = p - H := by omega
      have hHl : (((i : Int) + (j : Int)) / 2).toNat < l.length := by omega
      have hal : ((p : Int) - (((i : Int) + (j : Int)) / 2)).toNat < l.length := by omega
      have hcc : CT M g [.int .i64 l[((p : Int) - (((i : Int) + (j : Int)) / 2)).toNat]!, .int .i64 l[(((i : Int) + (j : Int)) / 2).toNat]!] (h.put b (some (.cells (ints l) 3))) ⟨.int .i64 (cf l[p - H]! l[H]!), h.put b (some (.cells (ints l) 3)), []⟩ := by
        rw [eH', ep]; exact hc _ _ _ (hok H (by omega) (by omega)).2 (hok H (by omega) (by omega)).1
      by_cases hd : ¬ cf l[p - H]! l[H]! < 0
      · unfold b222_4
        repeat' first
          | apply W.seq
          | apply SQn
          | apply W.region
          | apply WO.nil
          | apply W.block
          | apply W.ret
          | apply W.exit
          | apply W.skip
          | apply SQr
          | apply SQe
          | apply BQn
          | apply BQr
          | apply BQe
          | (apply BQo; exact rfl)
          | apply LQe
          | apply LQr
          | (apply W.drawro; exact rfl)
          | apply W.draw
          | apply WD.nil
          | (apply WD.gT; exact rfl)
          | (apply WD.gF; exact rfl)
          | (apply WD.sT; exact rfl)
          | (apply WD.sF; exact rfl)
          | (apply WD.sU; exact rfl)
          | (apply WD.pure1; exact rfl)
          | (apply WD.load1; exact rfl; exact rfl; exact rfl)
          | (apply WD.clb; exact rfl; exact rfl; exact rfl; exact rfl; all_goals first | (intro h; exact absurd h (by decide)) | intro _)
          | (apply WD.cl0; exact rfl; exact rfl; exact rfl; exact rfl)
          | (apply WD.cl1; exact rfl; exact rfl; exact rfl; exact rfl)
          | (apply W.condT; exact rfl)
          | (apply W.condF; exact rfl)
          | (apply W.cond; exact rfl; all_goals intro _)
          | (apply WO.lss; exact rfl; exact rfl; all_goals first | (intro _; exfalso; omega) | intro _)
          | (apply WO.cvu; exact rfl; omega)
          | (apply WO.cvi; exact rfl; omega)
          | (apply WO.shr1; exact rfl)
          | (apply WO.add; exact rfl; exact rfl; omega)
          | (apply WO.sub; exact rfl; exact rfl; omega)
          | (apply WO.ct; exact rfl; exact rfl; first | exact hcc)
          | (apply WO.ctn; exact rfl; exact rfl; first | exact hcc)
          | (apply WD.ct; exact rfl; exact rfl; exact rfl; first | exact hcc)
          | (apply WO.iav; exact rfl; exact rfl; omega)
          | (apply WO.ias; exact rfl; exact rfl; omega)
          | (apply WO.lda; exact rfl; exact fun _ => rfl; (first | omega | (simp only [List.length_set]; omega) | (simp; omega)); decide; exact rfl; case ia => infer_instance)
          | (apply WO.lsa; exact rfl; (first | exact rfl | assumption | exact at_new | (apply at_old; assumption) | (apply at_put; first | assumption | (simp only [put_length]; assumption))); exact fun _ => rfl; (first | omega | (simp only [List.length_set]; omega) | (simp; omega)); decide; exact rfl; case ia => infer_instance)
          | (apply WO.clb; exact rfl; exact rfl; exact rfl; all_goals first | (intro h; exact absurd h (by decide)) | intro _)
          | (apply WO.cll; exact rfl; exact rfl; exact rfl)
          | (apply WO.hlv; exact rfl; exact rfl; exact rfl)
          | (apply WO.hpv; exact rfl; exact rfl; exact rfl)
          | (apply WO.hnv; exact rfl; exact rfl; exact rfl)
          | (apply WO.pl; exact rfl; exact rfl)
          | (apply WO.pp; exact rfl; exact rfl)
        refine LQn ?_
        rw [eH]
        exact ih (H + 1) j _ _ (by omega) (by omega) (by omega) h3 (fun k hk1 hk2 => by
          rcases Nat.lt_or_eq_of_le (Nat.le_of_lt_succ hk2) with hk | rfl
          · exact hm k H hk1 hk (by omega) hd
          · exact hd) h5 hQ
      · unfold b222_4
        repeat' first
          | apply W.seq
          | apply SQn
          | apply W.region
          | apply WO.nil
          | apply W.block
          | apply W.ret
          | apply W.exit
          | apply W.skip
          | apply SQr
          | apply SQe
          | apply BQn
          | apply BQr
          | apply BQe
          | (apply BQo; exact rfl)
          | apply LQe
          | apply LQr
          | (apply W.drawro; exact rfl)
          | apply W.draw
          | apply WD.nil
          | (apply WD.gT; exact rfl)
          | (apply WD.gF; exact rfl)
          | (apply WD.sT; exact rfl)
          | (apply WD.sF; exact rfl)
          | (apply WD.sU; exact rfl)
          | (apply WD.pure1; exact rfl)
          | (apply WD.load1; exact rfl; exact rfl; exact rfl)
          | (apply WD.clb; exact rfl; exact rfl; exact rfl; exact rfl; all_goals first | (intro h; exact absurd h (by decide)) | intro _)
          | (apply WD.cl0; exact rfl; exact rfl; exact rfl; exact rfl)
          | (apply WD.cl1; exact rfl; exact rfl; exact rfl; exact rfl)
          | (apply W.condT; exact rfl)
          | (apply W.condF; exact rfl)
          | (apply W.cond; exact rfl; all_goals intro _)
          | (apply WO.lss; exact rfl; exact rfl; all_goals first | (intro _; exfalso; omega) | intro _)
          | (apply WO.cvu; exact rfl; omega)
          | (apply WO.cvi; exact rfl; omega)
          | (apply WO.shr1; exact rfl)
          | (apply WO.add; exact rfl; exact rfl; omega)
          | (apply WO.sub; exact rfl; exact rfl; omega)
          | (apply WO.ct; exact rfl; exact rfl; first | exact hcc)
          | (apply WO.ctn; exact rfl; exact rfl; first | exact hcc)
          | (apply WD.ct; exact rfl; exact rfl; exact rfl; first | exact hcc)
          | (apply WO.iav; exact rfl; exact rfl; omega)
          | (apply WO.ias; exact rfl; exact rfl; omega)
          | (apply WO.lda; exact rfl; exact fun _ => rfl; (first | omega | (simp only [List.length_set]; omega) | (simp; omega)); decide; exact rfl; case ia => infer_instance)
          | (apply WO.lsa; exact rfl; (first | exact rfl | assumption | exact at_new | (apply at_old; assumption) | (apply at_put; first | assumption | (simp only [put_length]; assumption))); exact fun _ => rfl; (first | omega | (simp only [List.length_set]; omega) | (simp; omega)); decide; exact rfl; case ia => infer_instance)
          | (apply WO.clb; exact rfl; exact rfl; exact rfl; all_goals first | (intro h; exact absurd h (by decide)) | intro _)
          | (apply WO.cll; exact rfl; exact rfl; exact rfl)
          | (apply WO.hlv; exact rfl; exact rfl; exact rfl)
          | (apply WO.hpv; exact rfl; exact rfl; exact rfl)
          | (apply WO.hnv; exact rfl; exact rfl; exact rfl)
          | (apply WO.pl; exact rfl; exact rfl)
          | (apply WO.pp; exact rfl; exact rfl)
        refine LQn ?_
        rw [eH]
        exact ih i H _ _ (by omega) h1 (by omega) (by omega) h4 (fun k hk1 hk2 => by
          rcases Nat.lt_or_eq_of_le hk1 with hk | rfl
          · exact Decidable.byContradiction fun hd' => hd (hm H k (by omega) hk hk2 hd')
          · exact Decidable.byContradiction hd) hQ

set_option maxHeartbeats 1000000 in
theorem loop222_1 (hn : n < 2305843009213693952) (hb : b < h.length) (x : Int) (T : List Int) (i : Nat) (a1 a2 a3 a6 a7 a9 a10 a11 a12 a13 a14 a15 a16 a17 a18 a19 : AV) {Q : Ex → StW → Prop} : ∀ (R A : List Int) (lo : List (Nat × AV)) (wr : List Nat), A.length + R.length + 1 = i → (A ++ x :: (R ++ T)).length = n → Only b wr →
    (∀ a8 lo wr L, Only b wr → L = A ++ R ++ x :: T → Q (.exit 2) ⟨⟨[.sl b 0 n 1 cap, a1, a2, a3, g, .int .i64 i, a6, a7, a8, a9, a10, a11, a12, a13, a14, a15, a16, a17, a18, a19], lo, h.put b (some (.cells (ints L) 3)), []⟩, wr⟩) →
    W M (.loop b222_1) ⟨⟨[.sl b 0 n 1 cap, a1, a2, a3, g, .int .i64 i, a6, a7, .int .i64 A.length, a9, a10, a11, a12, a13, a14, a15, a16, a17, a18, a19], lo, h.put b (some (.cells (ints (A ++ x :: (R ++ T))) 3)), []⟩, wr⟩ Q
  | [], A, lo, wr, hi, hl, hw, hQ => by
    have h0 : ([] : List Int).length = 0 := rfl
    have hn' : A.length < n := by simp at hl; omega
    refine W.loop ?_
    unfold b222_1
    repeat' first
      | apply W.seq
      | apply SQn
      | apply W.region
      | apply WO.nil
      | apply W.block
      | apply W.ret
      | apply W.exit
      | apply W.skip
      | apply SQr
      | apply SQe
      | apply BQn
      | apply BQr
      | apply BQe
      | (apply BQo; exact rfl)
      | apply LQe
      | apply LQr
      | (apply W.drawro; exact rfl)
      | apply W.draw
      | apply WD.nil
      | (apply WD.gT; exact rfl)
      | (apply WD.gF; exact rfl)
      | (apply WD.sT; exact rfl)
      | (apply WD.sF; exact rfl)
      | (apply WD.sU; exact rfl)
      | (apply WD.pure1; exact rfl)
      | (apply WD.load1; exact rfl; exact rfl; exact rfl)
      | (apply WD.store1; exact rfl; exact rfl; exact rfl)
      | (apply W.condT; exact rfl)
      | (apply W.condF; exact rfl)
      | (apply W.cond; exact rfl; all_goals intro _)
      | (apply WO.lss; exact rfl; exact rfl; all_goals first | (intro _; exfalso; omega) | intro _)
      | (apply WO.add; exact rfl; exact rfl; omega)
      | (apply WO.sub; exact rfl; exact rfl; omega)
      | (apply WO.iav; exact rfl; exact rfl; omega)
      | (apply WO.ias; exact rfl; exact rfl; omega)
      | (apply WO.lda; exact rfl; exact fun _ => rfl; (first | omega | (simp only [List.length_set]; omega) | (simp; omega)); decide; exact rfl; case ia => infer_instance)
      | (apply WO.lsa; exact rfl; (first | exact rfl | assumption | exact at_new | (apply at_old; assumption) | (apply at_put; first | assumption | (simp only [put_length]; assumption))); exact fun _ => rfl; (first | omega | (simp only [List.length_set]; omega) | (simp; omega)); decide; exact rfl; case ia => infer_instance)
      | (apply WO.sta; exact rfl; exact rfl; (first | exact rfl | assumption | exact at_new | (apply at_old; assumption) | (apply at_put; first | assumption | (simp only [put_length]; assumption))); exact fun _ => rfl; (first | omega | (simp only [List.length_set]; omega) | (simp; omega)); exact ⟨rfl, by decide, rfl⟩; exact rfl; case ia => infer_instance)
      | (apply WO.hlv; exact rfl; exact rfl; exact rfl)
      | (apply WO.hpv; exact rfl; exact rfl; exact rfl)
      | (apply WO.hnv; exact rfl; exact rfl; exact rfl)
      | (apply WO.pl; exact rfl; exact rfl)
      | (apply WO.pp; exact rfl; exact rfl)
    · exact hQ _ _ _ _ hw (by simp)
  | y :: R, A, lo, wr, hi, hl, hw, hQ => by
    have hi' : A.length + R.length + 2 = i := by simp at hi; omega
    have hl' : A.length + R.length + T.length + 2 = n := by simp at hl; omega
    have hli : i ≤ n := by omega
    have e1 : ((A.length : Int)).toNat = A.length := by omega
    have e2 : ((A.length : Int) + 1).toNat = A.length + 1 := by omega
    have b1 : ((A.length : Int)).toNat < (A ++ x :: (y :: R ++ T)).length := by omega
    have b2 : ((A.length : Int) + 1).toNat < (A ++ x :: (y :: R ++ T)).length := by omega
    have g1 : (A ++ x :: (y :: R ++ T))[A.length]! = x := get_at rfl
    have g2 : (A ++ x :: (y :: R ++ T))[A.length + 1]! = y := by
      rw [show A ++ x :: (y :: R ++ T) = (A ++ [x]) ++ y :: (R ++ T) by simp]; exact get_at (by simp)
    refine W.loop ?_
    unfold b222_1
    repeat' first
      | apply W.seq
      | apply SQn
      | apply W.region
      | apply WO.nil
      | apply W.block
      | apply W.ret
      | apply W.exit
      | apply W.skip
      | apply SQr
      | apply SQe
      | apply BQn
      | apply BQr
      | apply BQe
      | (apply BQo; exact rfl)
      | apply LQe
      | apply LQr
      | (apply W.drawro; exact rfl)
      | apply W.draw
      | apply WD.nil
      | (apply WD.gT; exact rfl)
      | (apply WD.gF; exact rfl)
      | (apply WD.sT; exact rfl)
      | (apply WD.sF; exact rfl)
      | (apply WD.sU; exact rfl)
      | (apply WD.pure1; exact rfl)
      | (apply WD.load1; exact rfl; exact rfl; exact rfl)
      | (apply WD.store1; exact rfl; exact rfl; exact rfl)
      | (apply W.condT; exact rfl)
      | (apply W.condF; exact rfl)
      | (apply W.cond; exact rfl; all_goals intro _)
      | (apply WO.lss; exact rfl; exact rfl; all_goals first | (intro _; exfalso; omega) | intro _)
      | (apply WO.add; exact rfl; exact rfl; omega)
      | (apply WO.sub; exact rfl; exact rfl; omega)
      | (apply WO.iav; exact rfl; exact rfl; omega)
      | (apply WO.ias; exact rfl; exact rfl; omega)
      | (apply WO.lda; exact rfl; exact fun _ => rfl; (first | omega | (simp only [List.length_set]; omega) | (simp; omega)); decide; exact rfl; case ia => infer_instance)
      | (apply WO.lsa; exact rfl; (first | exact rfl | assumption | exact at_new | (apply at_old; assumption) | (apply at_put; first | assumption | (simp only [put_length]; assumption))); exact fun _ => rfl; (first | omega | (simp only [List.length_set]; omega) | (simp; omega)); decide; exact rfl; case ia => infer_instance)
      | (apply WO.sta; exact rfl; exact rfl; (first | exact rfl | assumption | exact at_new | (apply at_old; assumption) | (apply at_put; first | assumption | (simp only [put_length]; assumption))); exact fun _ => rfl; (first | omega | (simp only [List.length_set]; omega) | (simp; omega)); exact ⟨rfl, by decide, rfl⟩; exact rfl; case ia => infer_instance)
      | (apply WO.hlv; exact rfl; exact rfl; exact rfl)
      | (apply WO.hpv; exact rfl; exact rfl; exact rfl)
      | (apply WO.hnv; exact rfl; exact rfl; exact rfl)
      | (apply WO.pl; exact rfl; exact rfl)
      | (apply WO.pp; exact rfl; exact rfl)
    refine LQn ?_
    rw [put_put, put_put, e1, e2, g1, g2, show A ++ x :: (y :: R ++ T) = A ++ x :: y :: (R ++ T) by simp, swap_up rfl]
    rw [show (A.length : Int) + 1 = ((A ++ [y]).length : Int) by simp, show A ++ y :: x :: (R ++ T) = (A ++ [y]) ++ x :: (R ++ T) by simp]
    refine loop222_1 hn hb x T i a1 a2 a3 a6 a7 a9 a10 a11 a12 a13 a14 a15 a16 a17 a18 a19 R (A ++ [y]) _ _ (by simp; omega) (by simp; omega) hw.cons.cons (fun a8 lo wr L k1 k2 => ?_)
    exact hQ a8 lo wr L k1 (by rw [k2]; simp)

set_option maxHeartbeats 1000000 in
theorem loop222_3 (hn : n < 2305843009213693952) (hb : b < h.length) (y : Int) (A : List Int) (a1 a2 a3 a5 a6 a7 a8 a10 a11 a13 a14 a15 a16 a17 a18 a19 : AV) {Q : Ex → StW → Prop} : ∀ (k : Nat) (L T : List Int) (lo : List (Nat × AV)) (wr : List Nat), L.length = k → (A ++ L ++ y :: T).length = n → Only b wr →
    (∀ a12 lo wr L', Only b wr → L' = A ++ y :: L ++ T → Q (.exit 6) ⟨⟨[.sl b 0 n 1 cap, a1, a2, a3, g, a5, a6, a7, a8, .int .i64 A.length, a10, a11, a12, a13, a14, a15, a16, a17, a18, a19], lo, h.put b (some (.cells (ints L') 3)), []⟩, wr⟩) →
    W M (.loop b222_3) ⟨⟨[.sl b 0 n 1 cap, a1, a2, a3, g, a5, a6, a7, a8, .int .i64 A.length, a10, a11, .int .i64 (A.length + L.length : Nat), a13, a14, a15, a16, a17, a18, a19], lo, h.put b (some (.cells (ints (A ++ L ++ y :: T)) 3)), []⟩, wr⟩ Q
  | 0, L, T, lo, wr, hk, hl, hw, hQ => by
    obtain rfl := List.length_eq_zero_iff.1 hk
    have h0 : ([] : List Int).length = 0 := rfl
    have hn' : A.length < n := by simp at hl; omega
    refine W.loop ?_
    unfold b222_3
    repeat' first
      | apply W.seq
      | apply SQn
      | apply W.region
      | apply WO.nil
      | apply W.block
      | apply W.ret
      | apply W.exit
      | apply W.skip
      | apply SQr
      | apply SQe
      | apply BQn
      | apply BQr
      | apply BQe
      | (apply BQo; exact rfl)
      | apply LQe
      | apply LQr
      | (apply W.drawro; exact rfl)
      | apply W.draw
      | apply WD.nil
      | (apply WD.gT; exact rfl)
      | (apply WD.gF; exact rfl)
      | (apply WD.sT; exact rfl)
      | (apply WD.sF; exact rfl)
      | (apply WD.sU; exact rfl)
      | (apply WD.pure1; exact rfl)
      | (apply WD.load1; exact rfl; exact rfl; exact rfl)
      | (apply WD.store1; exact rfl; exact rfl; exact rfl)
      | (apply W.condT; exact rfl)
      | (apply W.condF; exact rfl)
      | (apply W.cond; exact rfl; all_goals intro _)
      | (apply WO.gtr; exact rfl; exact rfl; all_goals first | (intro _; exfalso; omega) | intro _)
      | (apply WO.sub; exact rfl; exact rfl; omega)
      | (apply WO.iav; exact rfl; exact rfl; omega)
      | (apply WO.ias; exact rfl; exact rfl; omega)
      | (apply WO.lda; exact rfl; exact fun _ => rfl; (first | omega | (simp only [List.length_set]; omega) | (simp; omega)); decide; exact rfl; case ia => infer_instance)
      | (apply WO.lsa; exact rfl; (first | exact rfl | assumption | exact at_new | (apply at_old; assumption) | (apply at_put; first | assumption | (simp only [put_length]; assumption))); exact fun _ => rfl; (first | omega | (simp only [List.length_set]; omega) | (simp; omega)); decide; exact rfl; case ia => infer_instance)
      | (apply WO.sta; exact rfl; exact rfl; (first | exact rfl | assumption | exact at_new | (apply at_old; assumption) | (apply at_put; first | assumption | (simp only [put_length]; assumption))); exact fun _ => rfl; (first | omega | (simp only [List.length_set]; omega) | (simp; omega)); exact ⟨rfl, by decide, rfl⟩; exact rfl; case ia => infer_instance)
      | (apply WO.hlv; exact rfl; exact rfl; exact rfl)
      | (apply WO.hpv; exact rfl; exact rfl; exact rfl)
      | (apply WO.hnv; exact rfl; exact rfl; exact rfl)
      | (apply WO.pl; exact rfl; exact rfl)
      | (apply WO.pp; exact rfl; exact rfl)
    · exact hQ _ _ _ _ hw (by simp)
  | k + 1, L, T, lo, wr, hk, hl, hw, hQ => by
    obtain ⟨R, z, rfl⟩ : ∃ R z, L = R ++ [z] := by
      rcases List.eq_nil_or_concat L with rfl | ⟨R, z, rfl⟩
      · simp at hk
      · exact ⟨R, z, by simp⟩
    have hl' : A.length + R.length + T.length + 2 = n := by simp at hl; omega
    have hR : (R ++ [z]).length = R.length + 1 := by simp
    have hAR : (A ++ R).length = A.length + R.length := by simp
    have e1 : ((A.length + (R ++ [z]).length : Nat) : Int).toNat = (A ++ R).length + 1 := by omega
    have e2 : (((A.length + (R ++ [z]).length : Nat) : Int) - 1).toNat = (A ++ R).length := by omega
    have eL : A ++ (R ++ [z]) ++ y :: T = (A ++ R) ++ z :: y :: T := by simp
    have b1 : ((A.length + (R ++ [z]).length : Nat) : Int).toNat < (A ++ (R ++ [z]) ++ y :: T).length := by omega
    have b2 : (((A.length + (R ++ [z]).length : Nat) : Int) - 1).toNat < (A ++ (R ++ [z]) ++ y :: T).length := by omega
    have g1 : ((A ++ R) ++ z :: y :: T)[(A ++ R).length]! = z := get_at rfl
    have g2 : ((A ++ R) ++ z :: y :: T)[(A ++ R).length + 1]! = y := by
      rw [show (A ++ R) ++ z :: y :: T = (A ++ R ++ [z]) ++ y :: T by simp]; exact get_at (by simp <;> omega)
    refine W.loop ?_
    unfold b222_3
    repeat' first
      | apply W.seq
      | apply SQn
      | apply W.region
      | apply WO.nil
      | apply W.block
      | apply W.ret
      | apply W.exit
      | apply W.skip
      | apply SQr
      | apply SQe
      | apply BQn
      | apply BQr
      | apply BQe
      | (apply BQo; exact rfl)
      | apply LQe
      | apply LQr
      | (apply W.drawro; exact rfl)
      | apply W.draw
      | apply WD.nil
      | (apply WD.gT; exact rfl)
      | (apply WD.gF; exact rfl)
      | (apply WD.sT; exact rfl)
      | (apply WD.sF; exact rfl)
      | (apply WD.sU; exact rfl)
      | (apply WD.pure1; exact rfl)
      | (apply WD.load1; exact rfl; exact rfl; exact rfl)
      | (apply WD.store1; exact rfl; exact rfl; exact rfl)
      | (apply W.condT; exact rfl)
      | (apply W.condF; exact rfl)
      | (apply W.cond; exact rfl; all_goals intro _)
      | (apply WO.gtr; exact rfl; exact rfl; all_goals first | (intro _; exfalso; omega) | intro _)
      | (apply WO.sub; exact rfl; exact rfl; omega)
      | (apply WO.iav; exact rfl; exact rfl; omega)
      | (apply WO.ias; exact rfl; exact rfl; omega)
      | (apply WO.lda; exact rfl; exact fun _ => rfl; (first | omega | (simp only [List.length_set]; omega) | (simp; omega)); decide; exact rfl; case ia => infer_instance)
      | (apply WO.lsa; exact rfl; (first | exact rfl | assumption | exact at_new | (apply at_old; assumption) | (apply at_put; first | assumption | (simp only [put_length]; assumption))); exact fun _ => rfl; (first | omega | (simp only [List.length_set]; omega) | (simp; omega)); decide; exact rfl; case ia => infer_instance)
      | (apply WO.sta; exact rfl; exact rfl; (first | exact rfl | assumption | exact at_new | (apply at_old; assumption) | (apply at_put; first | assumption | (simp only [put_length]; assumption))); exact fun _ => rfl; (first | omega | (simp only [List.length_set]; omega) | (simp; omega)); exact ⟨rfl, by decide, rfl⟩; exact rfl; case ia => infer_instance)
      | (apply WO.hlv; exact rfl; exact rfl; exact rfl)
      | (apply WO.hpv; exact rfl; exact rfl; exact rfl)
      | (apply WO.hnv; exact rfl; exact rfl; exact rfl)
      | (apply WO.pl; exact rfl; exact rfl)
      | (apply WO.pp; exact rfl; exact rfl)
    refine LQn ?_
    rw [put_put, put_put, e1, e2, eL, g1, g2, swap_down rfl]
    rw [show ((A.length + (R ++ [z]).length : Nat) : Int) - 1 = ((A.length + R.length : Nat) : Int) by omega, show A ++ R ++ y :: z :: T = A ++ R ++ y :: (z :: T) from rfl]
    refine loop222_3 hn hb y A a1 a2 a3 a5 a6 a7 a8 a10 a11 a13 a14 a15 a16 a17 a18 a19 k R (z :: T) _ _ (by omega) (by simp; omega) hw.cons.cons (fun a12 lo wr L k1 k2 => ?_)
    exact hQ a12 lo wr L k1 (by rw [k2]; simp)
end Go.Ab.Ch1

/-
  Own work: slices.SortStableFunc over ints: the merge in place, whole.
-/
namespace Go.Ab.Ch1
open Go.Ab.Sort
variable {M : Mach} {h : Heap} {b n : Nat} {cap : Option Nat} {g : AV}
variable {key : Int → Int} {ok : Int → Prop} {cf : Int → Int → Int}

def t222_1 : ICode :=
 .seq (.region [⟨(.l 178), .mv (.p 15), none⟩,
    ⟨(.l 179), .mv (.p 2), none⟩,
    ⟨(.l 180), .bin .lss (.l 178) (.l 179), none⟩,
    ⟨(.l 181), .mv (.l 180), none⟩,
    ⟨(.l 182), .mv (.p 2), some ((.l 181), true)⟩,
    ⟨(.l 183), .mv (.p 19), some ((.l 181), true)⟩,
    ⟨(.l 184), .bin .lss (.l 182) (.l 183), some ((.l 181), true)⟩,
    ⟨(.l 185), .pick (.l 181) (.l 184) (.c (.bool false)), none⟩])
  (.cond (.l 185)
   (.region [⟨(.l 186), .mv (.p 0), none⟩,
     ⟨(.l 187), .mv (.p 15), none⟩,
     ⟨(.l 188), .mv (.p 2), none⟩,
     ⟨(.l 189), .mv (.p 19), none⟩,
     ⟨(.l 190), .mv (.p 4), none⟩,
     ⟨(.l 191), .call (.c (.fn (.func 261) [] [])) [(.l 186), (.l 187), (.l 188), (.l 189), (.l 190)], none⟩])
   (.skip))
def t222_2 : ICode :=
 .seq (.region [⟨(.l 192), .mv (.p 1), none⟩,
    ⟨(.l 193), .mv (.p 15), none⟩,
    ⟨(.l 194), .bin .lss (.l 192) (.l 193), none⟩,
    ⟨(.l 195), .mv (.l 194), none⟩,
    ⟨(.l 196), .mv (.p 15), some ((.l 195), true)⟩,
    ⟨(.l 197), .mv (.p 13), some ((.l 195), true)⟩,
    ⟨(.l 198), .bin .lss (.l 196) (.l 197), some ((.l 195), true)⟩,
    ⟨(.l 199), .pick (.l 195) (.l 198) (.c (.bool false)), none⟩])
  (.cond (.l 199)
   (.region [⟨(.l 200), .mv (.p 0), none⟩,
     ⟨(.l 201), .mv (.p 1), none⟩,
     ⟨(.l 202), .mv (.p 15), none⟩,
     ⟨(.l 203), .mv (.p 13), none⟩,
     ⟨(.l 204), .mv (.p 4), none⟩,
     ⟨(.l 205), .call (.c (.fn (.func 222) [] [])) [(.l 200), (.l 201), (.l 202), (.l 203), (.l 204)], none⟩])
   (.skip))
def t222_3 : ICode :=
 .seq (.region [⟨(.l 206), .mv (.p 13), none⟩,
    ⟨(.l 207), .mv (.p 19), none⟩,
    ⟨(.l 208), .bin .lss (.l 206) (.l 207), none⟩,
    ⟨(.l 209), .mv (.l 208), none⟩,
    ⟨(.l 210), .mv (.p 19), some ((.l 209), true)⟩,
    ⟨(.l 211), .mv (.p 3), some ((.l 209), true)⟩,
    ⟨(.l 212), .bin .lss (.l 210) (.l 211), some ((.l 209), true)⟩,
    ⟨(.l 213), .pick (.l 209) (.l 212) (.c (.bool false)), none⟩])
  (.cond (.l 213)
   (.region [⟨(.l 214), .mv (.p 0), none⟩,
     ⟨(.l 215), .mv (.p 13), none⟩,
     ⟨(.l 216), .mv (.p 19), none⟩,
     ⟨(.l 217), .mv (.p 3), none⟩,
     ⟨(.l 218), .mv (.p 4), none⟩,
     ⟨(.l 219), .call (.c (.fn (.func 222) [] [])) [(.l 214), (.l 215), (.l 216), (.l 217), (.l 218)], none⟩])
   (.skip))

theorem pc1 (C : CS M) (hb : b < h.length) (hn : n < 2305843009213693952) (A L R B : List Int) {l0 : List Int} {st m en : Int} (h0 : l0 = A ++ L ++ R ++ B) (hl : (A ++ L ++ R ++ B).length = n) (h1 : st = (A.length : Int)) (h2 : m = ((A.length + L.length : Nat) : Int)) (h3 : en = ((A.length + L.length + R.length : Nat) : Int))
    {a1 a3 a5 a6 a7 a8 a9 a10 a11 a12 a13 a14 a16 a17 a18 : AV} {lo : List (Nat × AV)} {wr : List Nat} (hw : Only b wr) {Q : Ex → StW → Prop}
    (hQ : ∀ lo wr l', Only b wr → l' = A ++ R ++ L ++ B → Q .normal ⟨⟨[.sl b 0 n 1 cap, a1, .int .i64 m, a3, g, a5, a6, a7, a8, a9, a10, a11, a12, a13, a14, .int .i64 st, a16, a17, a18, .int .i64 en], lo, h.put b (some (.cells (ints l') 3)), []⟩, wr⟩) :
    W M t222_1 ⟨⟨[.sl b 0 n 1 cap, a1, .int .i64 m, a3, g, a5, a6, a7, a8, a9, a10, a11, a12, a13, a14, .int .i64 st, a16, a17, a18, .int .i64 en], lo, h.put b (some (.cells (ints l0) 3)), []⟩, wr⟩ Q := by
  by_cases e : L ≠ [] ∧ R ≠ []
  · obtain ⟨e1, e2⟩ := e
    have p1 : 0 < L.length := List.length_pos_iff.2 e1
    have p2 : 0 < R.length := List.length_pos_iff.2 e2
    obtain ⟨wr', hw', hc⟩ := r261 (g := g) (cap := cap) C hb hn e1 e2 hl
    subst h0; subst h1; subst h2; subst h3
    unfold t222_1
    repeat' first
      | apply W.seq
      | apply SQn
      | apply W.region
      | apply WO.nil
      | apply W.block
      | apply W.ret
      | apply W.exit
      | apply W.skip
      | apply SQr
      | apply SQe
      | apply BQn
      | apply BQr
      | apply BQe
      | (apply BQo; exact rfl)
      | apply LQe
      | apply LQr
      | (apply W.condT; exact rfl)
      | (apply W.condF; exact rfl)
      | (apply W.cond; exact rfl; all_goals intro _)
      | (apply WO.gT; exact rfl)
      | (apply WO.gF; exact rfl)
      | (apply WO.sT; exact rfl)
      | (apply WO.sF; exact rfl)
      | (apply WO.sU; exact rfl)
      | (apply WO.lss; exact rfl; exact rfl; all_goals first | (intro _; exfalso; omega) | intro _)
      | (apply WO.pkT; exact rfl; exact rfl)
      | (apply WO.pkF; exact rfl; exact rfl)
      | (apply WO.ct; exact rfl; exact rfl; first | exact hc)
      | (apply WO.ctn; exact rfl; exact rfl; first | exact hc)
      | (apply WD.ct; exact rfl; exact rfl; exact rfl; first | exact hc)
      | (apply WO.clb; exact rfl; exact rfl; exact rfl; all_goals first | (intro h; exact absurd h (by decide)) | intro _)
      | (apply WO.cll; exact rfl; exact rfl; exact rfl)
      | (apply WO.pl; exact rfl; exact rfl)
      | (apply WO.pp; exact rfl; exact rfl)
    exact hQ _ _ _ (hw'.app hw) rfl
  · have el : A ++ L ++ R ++ B = A ++ R ++ L ++ B := by
      by_cases e1 : L = []
      · subst e1; simp
      · by_cases e2 : R = []
        · subst e2; simp
        · exact absurd ⟨e1, e2⟩ e
    have p : ¬ (st < m ∧ m < en) := fun ⟨q1, q2⟩ => e ⟨List.length_pos_iff.1 (by omega), List.length_pos_iff.1 (by omega)⟩
    unfold t222_1
    repeat' first
      | apply W.seq
      | apply SQn
      | apply W.region
      | apply WO.nil
      | apply W.block
      | apply W.ret
      | apply W.exit
      | apply W.skip
      | apply SQr
      | apply SQe
      | apply BQn
      | apply BQr
      | apply BQe
      | (apply BQo; exact rfl)
      | apply LQe
      | apply LQr
      | (apply W.condT; exact rfl)
      | (apply W.condF; exact rfl)
      | (apply W.cond; exact rfl; all_goals intro _)
      | (apply WO.gT; exact rfl)
      | (apply WO.gF; exact rfl)
      | (apply WO.sT; exact rfl)
      | (apply WO.sF; exact rfl)
      | (apply WO.sU; exact rfl)
      | (apply WO.lss; exact rfl; exact rfl; all_goals first | (intro _; exfalso; omega) | intro _)
      | (apply WO.pkT; exact rfl; exact rfl)
      | (apply WO.pkF; exact rfl; exact rfl)
      | (apply WO.clb; exact rfl; exact rfl; exact rfl; all_goals first | (intro h; exact absurd h (by decide)) | intro _)
      | (apply WO.cll; exact rfl; exact rfl; exact rfl)
      | (apply WO.pl; exact rfl; exact rfl)
      | (apply WO.pp; exact rfl; exact rfl)
    all_goals first | exact hQ _ _ _ hw (h0.trans el) | (exfalso; omega)

/-- A merge of two sorted lists, as it is asked of the calls. -/
def Mrg (M : Mach) (h : Heap) (b n : Nat) (cap : Option Nat) (g : AV) (key : Int → Int) (A L R B : List Int) : Prop :=
  ∃ S wr, Only b wr ∧ (Sd key S ∧ S.Perm (L ++ R)) ∧ CT M (fn 222) [.sl b 0 n 1 cap, .int .i64 A.length, .int .i64 (A.length + L.length : Nat), .int .i64 (A.length + L.length + R.length : Nat), g] (h.put b (some (.cells (ints (A ++ L ++ R ++ B)) 3))) ⟨.tup [], h.put b (some (.cells (ints (A ++ S ++ B)) 3)), wr⟩

theorem pc2 (A L R B : List Int) (hM : L ≠ [] → R ≠ [] → Mrg M h b n cap g key A L R B) (hL : Sd key L) (hR : Sd key R) {l0 : List Int} {a st mid : Int} (h0 : l0 = A ++ L ++ R ++ B) (h1 : a = (A.length : Int)) (h2 : st = ((A.length + L.length : Nat) : Int)) (h3 : mid = ((A.length + L.length + R.length : Nat) : Int))
    {a2 a3 a5 a6 a7 a8 a9 a10 a11 a12 a14 a16 a17 a18 a19 : AV} {lo : List (Nat × AV)} {wr : List Nat} (hw : Only b wr) {Q : Ex → StW → Prop}
    (hQ : ∀ S lo wr l', Only b wr → Sd key S → S.Perm (L ++ R) → l' = A ++ S ++ B → Q .normal ⟨⟨[.sl b 0 n 1 cap, .int .i64 a, a2, a3, g, a5, a6, a7, a8, a9, a10, a11, a12, .int .i64 mid, a14, .int .i64 st, a16, a17, a18, a19], lo, h.put b (some (.cells (ints l') 3)), []⟩, wr⟩) :
    W M t222_2 ⟨⟨[.sl b 0 n 1 cap, .int .i64 a, a2, a3, g, a5, a6, a7, a8, a9, a10, a11, a12, .int .i64 mid, a14, .int .i64 st, a16, a17, a18, a19], lo, h.put b (some (.cells (ints l0) 3)), []⟩, wr⟩ Q := by
  by_cases e : L ≠ [] ∧ R ≠ []
  · obtain ⟨e1, e2⟩ := e
    have p1 : 0 < L.length := List.length_pos_iff.2 e1
    have p2 : 0 < R.length := List.length_pos_iff.2 e2
    obtain ⟨S, wr', hw', ⟨g1, g2⟩, hc⟩ := hM e1 e2
    subst h0; subst h1; subst h2; subst h3
    unfold t222_2
    repeat' first
      | apply W.seq
      | apply SQn
      | apply W.region
      | apply WO.nil
      | apply W.block
      | apply W.ret
      | apply W.exit
      | apply W.skip
      | apply SQr
      | apply SQe
      | apply BQn
      | apply BQr
      | apply BQe
      | (apply BQo; exact rfl)
      | apply LQe
      | apply LQr
      | (apply W.condT; exact rfl)
      | (apply W.condF; exact rfl)
      | (apply W.cond; exact rfl; all_goals intro _)
      | (apply WO.gT; exact rfl)
      | (apply WO.gF; exact rfl)
      | (apply WO.sT; exact rfl)
      | (apply WO.sF; exact rfl)
      | (apply WO.sU; exact rfl)
      | (apply WO.lss; exact rfl; exact rfl; all_goals first | (intro _; exfalso; omega) | intro _)
      | (apply WO.pkT; exact rfl; exact rfl)
      | (apply WO.pkF; exact rfl; exact rfl)
      | (apply WO.ct; exact rfl; exact rfl; first | exact hc)
      | (apply WO.ctn; exact rfl; exact rfl; first | exact hc)
      | (apply WD.ct; exact rfl; exact rfl; exact rfl; first | exact hc)
      | (apply WO.clb; exact rfl; exact rfl; exact rfl; all_goals first | (intro h; exact absurd h (by decide)) | intro _)
      | (apply WO.cll; exact rfl; exact rfl; exact rfl)
      | (apply WO.pl; exact rfl; exact rfl)
      | (apply WO.pp; exact rfl; exact rfl)
    exact hQ S _ _ _ (hw'.app hw) g1 g2 rfl
  · have es : Sd key (L ++ R) := by
      by_cases e1 : L = []
      · subst e1; exact hR
      · by_cases e2 : R = []
        · subst e2; rw [List.append_nil]; exact hL
        · exact absurd ⟨e1, e2⟩ e
    have p : ¬ (a < st ∧ st < mid) := fun ⟨q1, q2⟩ => e ⟨List.length_pos_iff.1 (by omega), List.length_pos_iff.1 (by omega)⟩
    unfold t222_2
    repeat' first
      | apply W.seq
      | apply SQn
      | apply W.region
      | apply WO.nil
      | apply W.block
      | apply W.ret
      | apply W.exit
      | apply W.skip
      | apply SQr
      | apply SQe
      | apply BQn
      | apply BQr
      | apply BQe
      | (apply BQo; exact rfl)
      | apply LQe
      | apply LQr
      | (apply W.condT; exact rfl)
      | (apply W.condF; exact rfl)
      | (apply W.cond; exact rfl; all_goals intro _)
      | (apply WO.gT; exact rfl)
      | (apply WO.gF; exact rfl)
      | (apply WO.sT; exact rfl)
      | (apply WO.sF; exact rfl)
      | (apply WO.sU; exact rfl)
      | (apply WO.lss; exact rfl; exact rfl; all_goals first | (intro _; exfalso; omega) | intro _)
      | (apply WO.pkT; exact rfl; exact rfl)
      | (apply WO.pkF; exact rfl; exact rfl)
      | (apply WO.clb; exact rfl; exact rfl; exact rfl; all_goals first | (intro h; exact absurd h (by decide)) | intro _)
      | (apply WO.cll; exact rfl; exact rfl; exact rfl)
      | (apply WO.pl; exact rfl; exact rfl)
      | (apply WO.pp; exact rfl; exact rfl)
    all_goals first | exact hQ _ _ _ _ hw es (.refl _) (by rw [h0]; simp) | (exfalso; omega)

theorem pc3 (A L R B : List Int) (hM : L ≠ [] → R ≠ [] → Mrg M h b n cap g key A L R B) (hL : Sd key L) (hR : Sd key R) {l0 : List Int} {mid en e' : Int} (h0 : l0 = A ++ L ++ R ++ B) (h1 : mid = (A.length : Int)) (h2 : en = ((A.length + L.length : Nat) : Int)) (h3 : e' = ((A.length + L.length + R.length : Nat) : Int))
    {a1 a2 a5 a6 a7 a8 a9 a10 a11 a12 a14 a15 a16 a17 a18 : AV} {lo : List (Nat × AV)} {wr : List Nat} (hw : Only b wr) {Q : Ex → StW → Prop}
    (hQ : ∀ S lo wr l', Only b wr → Sd key S → S.Perm (L ++ R) → l' = A ++ S ++ B → Q .normal ⟨⟨[.sl b 0 n 1 cap, a1, a2, .int .i64 e', g, a5, a6, a7, a8, a9, a10, a11, a12, .int .i64 mid, a14, a15, a16, a17, a18, .int .i64 en], lo, h.put b (some (.cells (ints l') 3)), []⟩, wr⟩) :
    W M t222_3 ⟨⟨[.sl b 0 n 1 cap, a1, a2, .int .i64 e', g, a5, a6, a7, a8, a9, a10, a11, a12, .int .i64 mid, a14, a15, a16, a17, a18, .int .i64 en], lo, h.put b (some (.cells (ints l0) 3)), []⟩, wr⟩ Q := by
  by_cases e : L ≠ [] ∧ R ≠ []
  · obtain ⟨e1, e2⟩ := e
    have p1 : 0 < L.length := List.length_pos_iff.2 e1
    have p2 : 0 < R.length := List.length_pos_iff.2 e2
    obtain ⟨S, wr', hw', ⟨g1, g2⟩, hc⟩ := hM e1 e2
    subst h0; subst h1; subst h2; subst h3
    unfold t222_3
    repeat' first
      | apply W.seq
      | apply SQn
      | apply W.region
      | apply WO.nil
      | apply W.block
      | apply W.ret
      | apply W.exit
      | apply W.skip
      | apply SQr
      | apply SQe
      | apply BQn
      | apply BQr
      | apply BQe
      | (apply BQo; exact rfl)
      | apply LQe
      | apply LQr
      | (apply W.condT; exact rfl)
      | (apply W.condF; exact rfl)
      | (apply W.cond; exact rfl; all_goals intro _)
      | (apply WO.gT; exact rfl)
      | (apply WO.gF; exact rfl)
      | (apply WO.sT; exact rfl)
      | (apply WO.sF; exact rfl)
      | (apply WO.sU; exact rfl)
      | (apply WO.lss; exact rfl; exact rfl; all_goals first | (intro _; exfalso; omega) | intro _)
      | (apply WO.pkT; exact rfl; exact rfl)
      | (apply WO.pkF; exact rfl; exact rfl)
      | (apply WO.ct; exact rfl; exact rfl; first | exact hc)
      | (apply WO.ctn; exact rfl; exact rfl; first | exact hc)
      | (apply WD.ct; exact rfl; exact rfl; exact rfl; first | exact hc)
      | (apply WO.clb; exact rfl; exact rfl; exact rfl; all_goals first | (intro h; exact absurd h (by decide)) | intro _)
      | (apply WO.cll; exact rfl; exact rfl; exact rfl)
      | (apply WO.pl; exact rfl; exact rfl)
      | (apply WO.pp; exact rfl; exact rfl)
    exact hQ S _ _ _ (hw'.app hw) g1 g2 rfl
  · have es : Sd key (L ++ R) := by
      by_cases e1 : L = []
      · subst e1; exact hR
      · by_cases e2 : R = []
        · subst e2; rw [List.append_nil]; exact hL
        · exact absurd ⟨e1, e2⟩ e
    have p : ¬ (mid < en ∧ en < e') := fun ⟨q1, q2⟩ => e ⟨List.length_pos_iff.1 (by omega), List.length_pos_iff.1 (by omega)⟩
    unfold t222_3
    repeat' first
      | apply W.seq
      | apply SQn
      | apply W.region
      | apply WO.nil
      | apply W.block
      | apply W.ret
      | apply W.exit
      | apply W.skip
      | apply SQr
      | apply SQe
      | apply BQn
      | apply BQr
      | apply BQe
      | (apply BQo; exact rfl)
      | apply LQe
      | apply LQr
      | (apply W.condT; exact rfl)
      | (apply W.condF; exact rfl)
      | (apply W.cond; exact rfl; all_goals intro _)
      | (apply WO.gT; exact rfl)
      | (apply WO.gF; exact rfl)
      | (apply WO.sT; exact rfl)
      | (apply WO.sF; exact rfl)
      | (apply WO.sU; exact rfl)
      | (apply WO.lss; exact rfl; exact rfl; all_goals first | (intro _; exfalso; omega) | intro _)
      | (apply WO.pkT; exact rfl; exact rfl)
      | (apply WO.pkF; exact rfl; exact rfl)
      | (apply WO.clb; exact rfl; exact rfl; exact rfl; all_goals first | (intro h; exact absurd h (by decide)) | intro _)
      | (apply WO.cll; exact rfl; exact rfl; exact rfl)
      | (apply WO.pl; exact rfl; exact rfl)
      | (apply WO.pp; exact rfl; exact rfl)
    all_goals first | exact hQ _ _ _ _ hw es (.refl _) (by rw [h0]; simp) | (exfalso; omega)
end Go.Ab.Ch1

/-
  Own work: slices.SortStableFunc over ints: the merge in place, by induction.
-/
namespace Go.Ab.Ch1
open Go.Ab.Sort
variable {M : Mach} {h : Heap} {b n : Nat} {cap : Option Nat} {g : AV}
variable {key : Int → Int} {ok : Int → Prop} {cf : Int → Int → Int}

theorem take_get {R : List Int} {k : Nat} {y : Int} (h : R[k]? = some y) : R[k]! = y := by
  rw [List.getElem!_eq_getElem?_getD, h]; rfl

/-- One element and a sorted list. -/
theorem m222_a (C : CS M) (hb : b < h.length) (hn : n < 2305843009213693952) (hc : Cmp M h b g ok cf) (hcf : ∀ x y, ok x → ok y → (cf x y < 0 ↔ key y < key x)) (A : List Int) (x : Int) (R B : List Int) (hR0 : R ≠ []) (hl : (A ++ [x] ++ R ++ B).length = n) (hR : Sd key R) (hlt : ∀ y ∈ R, x < y) (hx : ok x) (ho : ∀ y ∈ R, ok y) :
    Mrg M h b n cap g key A [x] R B := by
  have hl' : A.length + 1 + R.length + B.length = n := by simp at hl; omega
  have h0 : ([x] : List Int).length = 1 := rfl
  have hRl : 0 < R.length := List.length_pos_iff.2 hR0
  have gR : ∀ i, i < R.length → (A ++ [x] ++ R ++ B)[A.length + [x].length + i]! = R[i]! := fun i hi => atR hi
  have ga : (A ++ [x] ++ R ++ B)[A.length]! = x := atL (i := 0) (by simp)
  have D : ∀ i, i < R.length → (cf R[i]! x < 0 ↔ Lt key R[i]! x) := fun i hi => (hcf _ _ (ho _ (getD_mem hi)) hx).trans (Lt.iff (hlt _ (getD_mem hi))).symm
  have split : ∀ k, A.length + [x].length ≤ k → k < A.length + [x].length + R.length → ∃ i, i < R.length ∧ k = A.length + [x].length + i := fun k h1 h2 => ⟨k - (A.length + [x].length), by omega, by omega⟩
  obtain ⟨l', wr, hw, ⟨S, rfl, g2, g3⟩, hr⟩ := run_put (M := M) (l := A ++ [x] ++ R ++ B) (e := 3) (f := fun x => [.int .i64 x]) (P := fun l' => ∃ S, l' = A ++ S ++ B ∧ Sd key S ∧ S.Perm ([x] ++ R))
    (ars := [.sl b 0 n 1 cap, .int .i64 A.length, .int .i64 (A.length + [x].length : Nat), .int .i64 (A.length + [x].length + R.length : Nat), g]) (by rw [C.ft]; exact ft222) (by simp) hb (fun _ => rfl) (by
      unfold b222
      simp only [List.map_cons, List.map_nil, List.getElem?_cons_zero, List.getElem?_cons_succ, List.getElem?_nil, Option.getD_some, Option.getD_none]
      repeat' first
        | apply W.seq
        | apply SQn
        | apply W.region
        | apply WO.nil
        | apply W.block
        | apply W.ret
        | apply W.exit
        | apply W.skip
        | apply SQr
        | apply SQe
        | apply BQn
        | apply BQr
        | apply BQe
        | (apply BQo; exact rfl)
        | apply LQe
        | apply LQr
        | (apply W.condT; exact rfl)
        | (apply W.condF; exact rfl)
        | (apply W.cond; exact rfl; all_goals intro _)
        | (apply WO.gT; exact rfl)
        | (apply WO.gF; exact rfl)
        | (apply WO.sT; exact rfl)
        | (apply WO.sF; exact rfl)
        | (apply WO.sU; exact rfl)
        | (apply WO.lss; exact rfl; exact rfl; all_goals first | (intro _; exfalso; omega) | intro _)
        | (apply WO.gtr; exact rfl; exact rfl; all_goals first | (intro _; exfalso; omega) | intro _)
        | (apply WO.eql; exact rfl; exact rfl; all_goals first | (intro _; exfalso; omega) | intro _)
        | (apply WO.cvu; exact rfl; omega)
        | (apply WO.cvi; exact rfl; omega)
        | (apply WO.shr1; exact rfl)
        | (apply WO.pkT; exact rfl; exact rfl)
        | (apply WO.pkF; exact rfl; exact rfl)
        | (apply WO.add; exact rfl; exact rfl; omega)
        | (apply WO.sub; exact rfl; exact rfl; omega)
        | (apply WO.seql; exact rfl; exact rfl; all_goals first | (intro h; exact absurd h (by decide)) | (intro h; exact absurd rfl h) | (intro h; contradiction) | intro _)
        | (apply WO.clb; exact rfl; exact rfl; exact rfl; all_goals first | (intro h; exact absurd h (by decide)) | intro _)
        | (apply WO.cll; exact rfl; exact rfl; exact rfl)
        | (apply WO.pl; exact rfl; exact rfl)
        | (apply WO.pp; exact rfl; exact rfl)
      refine loop222_0 hn hb hc (A ++ [x] ++ R ++ B) hl A.length (A.length + [x].length) (A.length + [x].length + R.length) (by omega) (by omega) (fun k h1 h2 => ?_) (by rw [ga]; exact hx) _ _ _ _ _ _ _ _ _ _ _ _ _ _ _ (fun k k' h1 h2 h3 h4 => ?_) R.length (A.length + [x].length) (A.length + [x].length + R.length) _ _ (by omega) (Nat.le_refl _) (by omega) (Nat.le_refl _) (fun k h1 h2 => by omega) (fun k h1 h2 => by omega) (fun i a7 lo h1 h2 h3 h4 => ?_)
      · obtain ⟨i, hi, rfl⟩ := split k h1 h2
        rw [gR i hi]; exact ho _ (getD_mem hi)
      · obtain ⟨i, hi, rfl⟩ := split k h1 (by omega)
        obtain ⟨j, hj, rfl⟩ := split k' (by omega) h3
        rw [gR j hj, ga] at h4
        rw [gR i hi, ga]
        exact (D i hi).2 ((sd_get hR (by omega) hj).trans ((D j hj).1 h4))
      · obtain ⟨i, hi, rfl⟩ : ∃ j, j ≤ R.length ∧ i = A.length + [x].length + j := ⟨i - (A.length + [x].length), by omega, by omega⟩
        have hs : Sd key (R.take i ++ x :: R.drop i) := by
          refine one_left hR (fun k y hk hy => ?_) (fun k y hk hy => ?_)
          · have hkl := (List.getElem?_eq_some_iff.1 hy).1
            have := h3 (A.length + [x].length + k) (by omega) (by omega)
            rw [gR k hkl, ga] at this
            rw [← take_get hy]; exact (D k hkl).1 this
          · have hkl := (List.getElem?_eq_some_iff.1 hy).1
            have := h4 (A.length + [x].length + k) (by omega) (by omega)
            rw [gR k hkl, ga, D k hkl] at this
            rw [← take_get hy]; exact Lt.tot (hlt _ (getD_mem hkl)) this
        have hti : (R.take i).length = i := by rw [List.length_take]; omega
        repeat' first
          | apply W.seq
          | apply SQn
          | apply W.region
          | apply WO.nil
          | apply W.block
          | apply W.ret
          | apply W.exit
          | apply W.skip
          | apply SQr
          | apply SQe
          | apply BQn
          | apply BQr
          | apply BQe
          | (apply BQo; exact rfl)
          | apply LQe
          | apply LQr
          | (apply W.condT; exact rfl)
          | (apply W.condF; exact rfl)
          | (apply W.cond; exact rfl; all_goals intro _)
          | (apply WO.gT; exact rfl)
          | (apply WO.gF; exact rfl)
          | (apply WO.sT; exact rfl)
          | (apply WO.sF; exact rfl)
          | (apply WO.sU; exact rfl)
          | (apply WO.lss; exact rfl; exact rfl; all_goals first | (intro _; exfalso; omega) | intro _)
          | (apply WO.gtr; exact rfl; exact rfl; all_goals first | (intro _; exfalso; omega) | intro _)
          | (apply WO.eql; exact rfl; exact rfl; all_goals first | (intro _; exfalso; omega) | intro _)
          | (apply WO.cvu; exact rfl; omega)
          | (apply WO.cvi; exact rfl; omega)
          | (apply WO.shr1; exact rfl)
          | (apply WO.pkT; exact rfl; exact rfl)
          | (apply WO.pkF; exact rfl; exact rfl)
          | (apply WO.add; exact rfl; exact rfl; omega)
          | (apply WO.sub; exact rfl; exact rfl; omega)
          | (apply WO.seql; exact rfl; exact rfl; all_goals first | (intro h; exact absurd h (by decide)) | (intro h; exact absurd rfl h) | (intro h; contradiction) | intro _)
          | (apply WO.clb; exact rfl; exact rfl; exact rfl; all_goals first | (intro h; exact absurd h (by decide)) | intro _)
          | (apply WO.cll; exact rfl; exact rfl; exact rfl)
          | (apply WO.pl; exact rfl; exact rfl)
          | (apply WO.pp; exact rfl; exact rfl)
        rw [show A ++ [x] ++ R ++ B = A ++ x :: (R.take i ++ (R.drop i ++ B)) by rw [← List.append_assoc (R.take i), List.take_append_drop]; simp]
        refine loop222_1 hn hb x (R.drop i ++ B) (A.length + [x].length + i) _ _ _ _ _ _ _ _ _ _ _ _ _ _ _ _ (R.take i) A _ _ (by omega) (by simp; omega) Only.nil (fun a8 lo wr L k1 k2 => ?_)
        repeat' first
          | apply W.seq
          | apply SQn
          | apply W.region
          | apply WO.nil
          | apply W.block
          | apply W.ret
          | apply W.exit
          | apply W.skip
          | apply SQr
          | apply SQe
          | apply BQn
          | apply BQr
          | apply BQe
          | (apply BQo; exact rfl)
          | apply LQe
          | apply LQr
          | (apply W.condT; exact rfl)
          | (apply W.condF; exact rfl)
          | (apply W.cond; exact rfl; all_goals intro _)
          | (apply WO.gT; exact rfl)
          | (apply WO.gF; exact rfl)
          | (apply WO.sT; exact rfl)
          | (apply WO.sF; exact rfl)
          | (apply WO.sU; exact rfl)
          | (apply WO.lss; exact rfl; exact rfl; all_goals first | (intro _; exfalso; omega) | intro _)
          | (apply WO.gtr; exact rfl; exact rfl; all_goals first | (intro _; exfalso; omega) | intro _)
          | (apply WO.eql; exact rfl; exact rfl; all_goals first | (intro _; exfalso; omega) | intro _)
          | (apply WO.cvu; exact rfl; omega)
          | (apply WO.cvi; exact rfl; omega)
          | (apply WO.shr1; exact rfl)
          | (apply WO.pkT; exact rfl; exact rfl)
          | (apply WO.pkF; exact rfl; exact rfl)
          | (apply WO.add; exact rfl; exact rfl; omega)
          | (apply WO.sub; exact rfl; exact rfl; omega)
          | (apply WO.seql; exact rfl; exact rfl; all_goals first | (intro h; exact absurd h (by decide)) | (intro h; exact absurd rfl h) | (intro h; contradiction) | intro _)
          | (apply WO.clb; exact rfl; exact rfl; exact rfl; all_goals first | (intro h; exact absurd h (by decide)) | intro _)
          | (apply WO.cll; exact rfl; exact rfl; exact rfl)
          | (apply WO.pl; exact rfl; exact rfl)
          | (apply WO.pp; exact rfl; exact rfl)
        exact ⟨.inr rfl, rfl, L, rfl, k1, R.take i ++ x :: R.drop i, by rw [k2]; simp, hs, by
          have := List.perm_middle (a := x) (l₁ := R.take i) (l₂ := R.drop i)
          rwa [List.take_append_drop] at this⟩)
  exact ⟨S, wr, hw, ⟨g2, g3⟩, ct_of_run C.n222 hr⟩

/-- A sorted list and one element. -/
theorem m222_b (C : CS M) (hb : b < h.length) (hn : n < 2305843009213693952) (hc : Cmp M h b g ok cf) (hcf : ∀ x y, ok x → ok y → (cf x y < 0 ↔ key y < key x)) (A L : List Int) (y : Int) (B : List Int) (hL0 : 1 < L.length) (hl : (A ++ L ++ [y] ++ B).length = n) (hL : Sd key L) (hlt : ∀ x ∈ L, x < y) (hy : ok y) (ho : ∀ x ∈ L, ok x) :
    Mrg M h b n cap g key A L [y] B := by
  have hl' : A.length + L.length + 1 + B.length = n := by simp at hl; omega
  have h0 : ([y] : List Int).length = 1 := rfl
  have gL : ∀ i, i < L.length → (A ++ L ++ [y] ++ B)[A.length + i]! = L[i]! := fun i hi => atL hi
  have gm : (A ++ L ++ [y] ++ B)[A.length + L.length]! = y := atR (i := 0) (by simp)
  have D : ∀ i, i < L.length → (cf y L[i]! < 0 ↔ Lt key y L[i]!) := fun i hi => (hcf _ _ hy (ho _ (getD_mem hi))).trans (Lt.iff (hlt _ (getD_mem hi))).symm
  have split : ∀ k, A.length ≤ k → k < A.length + L.length → ∃ i, i < L.length ∧ k = A.length + i := fun k h1 h2 => ⟨k - A.length, by omega, by omega⟩
  obtain ⟨l', wr, hw, ⟨S, rfl, g2, g3⟩, hr⟩ := run_put (M := M) (l := A ++ L ++ [y] ++ B) (e := 3) (f := fun x => [.int .i64 x]) (P := fun l' => ∃ S, l' = A ++ S ++ B ∧ Sd key S ∧ S.Perm (L ++ [y]))
    (ars := [.sl b 0 n 1 cap, .int .i64 A.length, .int .i64 (A.length + L.length : Nat), .int .i64 (A.length + L.length + [y].length : Nat), g]) (by rw [C.ft]; exact ft222) (by simp) hb (fun _ => rfl) (by
      unfold b222
      simp only [List.map_cons, List.map_nil, List.getElem?_cons_zero, List.getElem?_cons_succ, List.getElem?_nil, Option.getD_some, Option.getD_none]
      repeat' first
        | apply W.seq
        | apply SQn
        | apply W.region
        | apply WO.nil
        | apply W.block
        | apply W.ret
        | apply W.exit
        | apply W.skip
        | apply SQr
        | apply SQe
        | apply BQn
        | apply BQr
        | apply BQe
        | (apply BQo; exact rfl)
        | apply LQe
        | apply LQr
        | (apply W.condT; exact rfl)
        | (apply W.condF; exact rfl)
        | (apply W.cond; exact rfl; all_goals intro _)
        | (apply WO.gT; exact rfl)
        | (apply WO.gF; exact rfl)
        | (apply WO.sT; exact rfl)
        | (apply WO.sF; exact rfl)
        | (apply WO.sU; exact rfl)
        | (apply WO.lss; exact rfl; exact rfl; all_goals first | (intro _; exfalso; omega) | intro _)
        | (apply WO.gtr; exact rfl; exact rfl; all_goals first | (intro _; exfalso; omega) | intro _)
        | (apply WO.eql; exact rfl; exact rfl; all_goals first | (intro _; exfalso; omega) | intro _)
        | (apply WO.cvu; exact rfl; omega)
        | (apply WO.cvi; exact rfl; omega)
        | (apply WO.shr1; exact rfl)
        | (apply WO.pkT; exact rfl; exact rfl)
        | (apply WO.pkF; exact rfl; exact rfl)
        | (apply WO.add; exact rfl; exact rfl; omega)
        | (apply WO.sub; exact rfl; exact rfl; omega)
        | (apply WO.seql; exact rfl; exact rfl; all_goals first | (intro h; exact absurd h (by decide)) | (intro h; exact absurd rfl h) | (intro h; contradiction) | intro _)
        | (apply WO.clb; exact rfl; exact rfl; exact rfl; all_goals first | (intro h; exact absurd h (by decide)) | intro _)
        | (apply WO.cll; exact rfl; exact rfl; exact rfl)
        | (apply WO.pl; exact rfl; exact rfl)
        | (apply WO.pp; exact rfl; exact rfl)
      refine loop222_2 hn hb hc (A ++ L ++ [y] ++ B) hl (A.length + L.length) A.length (A.length + L.length) (by omega) (by omega) (fun k h1 h2 => ?_) (by rw [gm]; exact hy) _ _ _ _ _ _ _ _ _ _ _ _ _ _ _ (fun k k' h1 h2 h3 h4 => ?_) L.length A.length (A.length + L.length) _ _ (by omega) (Nat.le_refl _) (by omega) (Nat.le_refl _) (fun k h1 h2 => by omega) (fun k h1 h2 => by omega) (fun i a11 lo h1 h2 h3 h4 => ?_)
      · obtain ⟨i, hi, rfl⟩ := split k h1 h2
        rw [gL i hi]; exact ho _ (getD_mem hi)
      · obtain ⟨i, hi, rfl⟩ := split k h1 (by omega)
        obtain ⟨j, hj, rfl⟩ := split k' (by omega) h3
        rw [gL j hj, gm] at h4
        rw [gL i hi, gm]
        exact fun h => h4 ((D j hj).2 (((D i hi).1 h).trans (sd_get hL (by omega) hj)))
      · obtain ⟨i, hi, rfl⟩ : ∃ j, j ≤ L.length ∧ i = A.length + j := ⟨i - A.length, by omega, by omega⟩
        have hs : Sd key (L.take i ++ y :: L.drop i) := by
          refine one_left hL (fun k z hk hz => ?_) (fun k z hk hz => ?_)
          · have hkl := (List.getElem?_eq_some_iff.1 hz).1
            have := h3 (A.length + k) (by omega) (by omega)
            rw [gL k hkl, gm, D k hkl] at this
            rw [← take_get hz]; exact Lt.tot (hlt _ (getD_mem hkl)) this
          · have hkl := (List.getElem?_eq_some_iff.1 hz).1
            have := h4 (A.length + k) (by omega) (by omega)
            rw [gL k hkl, gm] at this
            rw [← take_get hz]; exact (D k hkl).1 this
        have hti : (L.take i).length = i := by rw [List.length_take]; omega
        have htd : (L.drop i).length = L.length - i := List.length_drop
        repeat' first
          | apply W.seq
          | apply SQn
          | apply W.region
          | apply WO.nil
          | apply W.block
          | apply W.ret
          | apply W.exit
          | apply W.skip
          | apply SQr
          | apply SQe
          | apply BQn
          | apply BQr
          | apply BQe
          | (apply BQo; exact rfl)
          | apply LQe
          | apply LQr
          | (apply W.condT; exact rfl)
          | (apply W.condF; exact rfl)
          | (apply W.cond; exact rfl; all_goals intro _)
          | (apply WO.gT; exact rfl)
          | (apply WO.gF; exact rfl)
          | (apply WO.sT; exact rfl)
          | (apply WO.sF; exact rfl)
          | (apply WO.sU; exact rfl)
          | (apply WO.lss; exact rfl; exact rfl; all_goals first | (intro _; exfalso; omega) | intro _)
          | (apply WO.gtr; exact rfl; exact rfl; all_goals first | (intro _; exfalso; omega) | intro _)
          | (apply WO.eql; exact rfl; exact rfl; all_goals first | (intro _; exfalso; omega) | intro _)
          | (apply WO.cvu; exact rfl; omega)
          | (apply WO.cvi; exact rfl; omega)
          | (apply WO.shr1; exact rfl)
          | (apply WO.pkT; exact rfl; exact rfl)
          | (apply WO.pkF; exact rfl; exact rfl)
          | (apply WO.add; exact rfl; exact rfl; omega)
          | (apply WO.sub; exact rfl; exact rfl; omega)
          | (apply WO.seql; exact rfl; exact rfl; all_goals first | (intro h; exact absurd h (by decide)) | (intro h; exact absurd rfl h) | (intro h; contradiction) | intro _)
          | (apply WO.clb; exact rfl; exact rfl; exact rfl; all_goals first | (intro h; exact absurd h (by decide)) | intro _)
          | (apply WO.cll; exact rfl; exact rfl; exact rfl)
          | (apply WO.pl; exact rfl; exact rfl)
          | (apply WO.pp; exact rfl; exact rfl)
        rw [show A ++ L ++ [y] ++ B = (A ++ L.take i) ++ L.drop i ++ y :: B by rw [List.append_assoc A (L.take i), List.take_append_drop]; simp]
        rw [show ((A.length + i : Nat) : Int) = ((A ++ L.take i).length : Int) by rw [List.length_append, hti], show ((A.length + L.length : Nat) : Int) = (((A ++ L.take i).length + (L.drop i).length : Nat) : Int) by rw [List.length_append, hti, htd]; omega]
        refine loop222_3 hn hb y (A ++ L.take i) _ _ _ _ _ _ _ _ _ _ _ _ _ _ _ _ (L.drop i).length (L.drop i) B _ _ rfl (by simp; omega) Only.nil (fun a12 lo wr L' k1 k2 => ?_)
        repeat' first
          | apply W.seq
          | apply SQn
          | apply W.region
          | apply WO.nil
          | apply W.block
          | apply W.ret
          | apply W.exit
          | apply W.skip
          | apply SQr
          | apply SQe
          | apply BQn
          | apply BQr
          | apply BQe
          | (apply BQo; exact rfl)
          | apply LQe
          | apply LQr
          | (apply W.condT; exact rfl)
          | (apply W.condF; exact rfl)
          | (apply W.cond; exact rfl; all_goals intro _)
          | (apply WO.gT; exact rfl)
          | (apply WO.gF; exact rfl)
          | (apply WO.sT; exact rfl)
          | (apply WO.sF; exact rfl)
          | (apply WO.sU; exact rfl)
          | (apply WO.lss; exact rfl; exact rfl; all_goals first | (intro _; exfalso; omega) | intro _)
          | (apply WO.gtr; exact rfl; exact rfl; all_goals first | (intro _; exfalso; omega) | intro _)
          | (apply WO.eql; exact rfl; exact rfl; all_goals first | (intro _; exfalso; omega) | intro _)
          | (apply WO.cvu; exact rfl; omega)
          | (apply WO.cvi; exact rfl; omega)
          | (apply WO.shr1; exact rfl)
          | (apply WO.pkT; exact rfl; exact rfl)
          | (apply WO.pkF; exact rfl; exact rfl)
          | (apply WO.add; exact rfl; exact rfl; omega)
          | (apply WO.sub; exact rfl; exact rfl; omega)
          | (apply WO.seql; exact rfl; exact rfl; all_goals first | (intro h; exact absurd h (by decide)) | (intro h; exact absurd rfl h) | (intro h; contradiction) | intro _)
          | (apply WO.clb; exact rfl; exact rfl; exact rfl; all_goals first | (intro h; exact absurd h (by decide)) | intro _)
          | (apply WO.cll; exact rfl; exact rfl; exact rfl)
          | (apply WO.pl; exact rfl; exact rfl)
          | (apply WO.pp; exact rfl; exact rfl)
        exact ⟨.inr rfl, rfl, L', rfl, k1, L.take i ++ y :: L.drop i, by rw [k2]; simp, hs, by
          have := List.perm_middle (a := y) (l₁ := L.take i) (l₂ := L.drop i)
          rw [List.take_append_drop] at this
          exact this.trans (List.perm_append_comm (l₁ := [y]) (l₂ := L))⟩)
  exact ⟨S, wr, hw, ⟨g2, g3⟩, ct_of_run C.n222 hr⟩

def t222_0 : ICode :=
 .seq (.region [⟨(.l 175), .mv (.p 14), none⟩,
    ⟨(.l 176), .mv (.p 15), none⟩,
    ⟨(.l 177), .bin .sub (.l 175) (.l 176), none⟩,
    ⟨(.p 19), .mv (.l 177), none⟩])
  (.seq t222_1 (.seq t222_2 t222_3))

theorem _root_.Go.Ab.Sort.Sd.split {L : List Int} {i : Nat} (h : Sd key L) : Sd key (L.take i) ∧ Sd key (L.drop i) := by
  have h' : Sd key (L.take i ++ L.drop i) := by rw [List.take_append_drop]; exact h
  exact ⟨h'.left, h'.right⟩

set_option maxHeartbeats 4000000 in
/-- The merge of two sorted lists, the elements of the first in front. -/
theorem m222 (C : CS M) (hb : b < h.length) (hn : n < 2305843009213693952) (hc : Cmp M h b g ok cf) (hcf : ∀ x y, ok x → ok y → (cf x y < 0 ↔ key y < key x)) : ∀ (k : Nat) (A L R B : List Int), L.length + R.length ≤ k → L ≠ [] → R ≠ [] → (A ++ L ++ R ++ B).length = n → Sd key L → Sd key R → (∀ x ∈ L, ∀ y ∈ R, x < y) → (∀ x ∈ L, ok x) → (∀ y ∈ R, ok y) → Mrg M h b n cap g key A L R B
  | 0, A, L, R, B, hk, hL0, hR0, hl, hL, hR, hlt, ho, ho' => absurd (List.length_eq_zero_iff.1 (by omega)) hL0
  | k + 1, A, L, R, B, hk, hL0, hR0, hl, hL, hR, hlt, ho, ho' => by
    have hLl : 0 < L.length := List.length_pos_iff.2 hL0
    have hRl : 0 < R.length := List.length_pos_iff.2 hR0
    have hl' : A.length + L.length + R.length + B.length = n := by simp at hl; omega
    by_cases c1 : L.length = 1
    · obtain ⟨x, rfl⟩ := List.length_eq_one_iff.1 c1
      exact m222_a C hb hn hc hcf A x R B hR0 hl hR (hlt x (by simp)) (ho x (by simp)) ho'
    by_cases c2 : R.length = 1
    · obtain ⟨y, rfl⟩ := List.length_eq_one_iff.1 c2
      exact m222_b C hb hn hc hcf A L y B (by omega) hl hL (fun x hx => hlt x hx y (by simp)) (ho' y (by simp)) ho
    have gL : ∀ i, i < L.length → (A ++ L ++ R ++ B)[A.length + i]! = L[i]! := fun i hi => atL hi
    have gR : ∀ i, i < R.length → (A ++ L ++ R ++ B)[A.length + L.length + i]! = R[i]! := fun i hi => atR hi
    obtain ⟨a, ea⟩ : ∃ a, a = A.length := ⟨_, rfl⟩
    obtain ⟨m, em⟩ : ∃ m, m = A.length + L.length := ⟨_, rfl⟩
    obtain ⟨e, ee⟩ : ∃ e, e = A.length + L.length + R.length := ⟨_, rfl⟩
    obtain ⟨mid, emid⟩ : ∃ mid, mid = (a + e) / 2 := ⟨_, rfl⟩
    -- what the search compares: a place of the left list, and its counterpart in the right one
    have D : ∀ c, a ≤ c → c < m → m ≤ mid + m - 1 - c → mid + m - 1 - c < e → ok (A ++ L ++ R ++ B)[c]! ∧ ok (A ++ L ++ R ++ B)[mid + m - 1 - c]! ∧ (cf (A ++ L ++ R ++ B)[mid + m - 1 - c]! (A ++ L ++ R ++ B)[c]! < 0 ↔ Lt key (A ++ L ++ R ++ B)[mid + m - 1 - c]! (A ++ L ++ R ++ B)[c]!) ∧ (A ++ L ++ R ++ B)[c]! < (A ++ L ++ R ++ B)[mid + m - 1 - c]! := by
      intro c h1 h2 h3 h4
      obtain ⟨i, hi, rfl⟩ : ∃ i, i < L.length ∧ c = A.length + i := ⟨c - A.length, by omega, by omega⟩
      obtain ⟨j, hj, ej⟩ : ∃ j, j < R.length ∧ mid + m - 1 - (A.length + i) = A.length + L.length + j := ⟨mid + m - 1 - (A.length + i) - (A.length + L.length), by omega, by omega⟩
      rw [ej, gL i hi, gR j hj]
      have hxy := hlt _ (getD_mem hi) _ (getD_mem hj)
      exact ⟨ho _ (getD_mem hi), ho' _ (getD_mem hj), (hcf _ _ (ho' _ (getD_mem hj)) (ho _ (getD_mem hi))).trans (Lt.iff hxy).symm, hxy⟩
    have sL : ∀ c c', a ≤ c → c < c' → c' < m → Lt key (A ++ L ++ R ++ B)[c]! (A ++ L ++ R ++ B)[c']! := by
      intro c c' h1 h2 h3
      obtain ⟨i, hi, rfl⟩ : ∃ i, i < L.length ∧ c = A.length + i := ⟨c - A.length, by omega, by omega⟩
      obtain ⟨j, hj, rfl⟩ : ∃ j, j < L.length ∧ c' = A.length + j := ⟨c' - A.length, by omega, by omega⟩
      rw [gL i hi, gL j hj]; exact sd_get hL (by omega) hj
    have sR : ∀ c c', m ≤ c → c < c' → c' < e → Lt key (A ++ L ++ R ++ B)[c]! (A ++ L ++ R ++ B)[c']! := by
      intro c c' h1 h2 h3
      obtain ⟨i, hi, rfl⟩ : ∃ i, i < R.length ∧ c = A.length + L.length + i := ⟨c - (A.length + L.length), by omega, by omega⟩
      obtain ⟨j, hj, rfl⟩ : ∃ j, j < R.length ∧ c' = A.length + L.length + j := ⟨c' - (A.length + L.length), by omega, by omega⟩
      rw [gR i hi, gR j hj]; exact sd_get hR (by omega) hj
    -- behind the search
    have key1 : ∀ (s0 r0 st : Nat), (m ≤ mid ∧ s0 = a ∧ r0 = m ∨ mid < m ∧ s0 = mid + m - e ∧ r0 = mid) → s0 ≤ st → st ≤ r0 → (∀ c, s0 ≤ c → c < st → ¬ cf (A ++ L ++ R ++ B)[mid + m - 1 - c]! (A ++ L ++ R ++ B)[c]! < 0) → (∀ c, st ≤ c → c < r0 → cf (A ++ L ++ R ++ B)[mid + m - 1 - c]! (A ++ L ++ R ++ B)[c]! < 0) →
        a ≤ st ∧ st ≤ m ∧ m ≤ mid + m - st ∧ mid + m - st ≤ e ∧ ∀ x ∈ L.take (st - a) ++ R.take (mid - st), ∀ y ∈ L.drop (st - a) ++ R.drop (mid - st), Lt key x y := by
      intro s0 r0 st hs h1 h2 h3 h4
      have hb' : a ≤ st ∧ st ≤ m ∧ m ≤ mid + m - st ∧ mid + m - st ≤ e := by omega
      refine ⟨hb'.1, hb'.2.1, hb'.2.2.1, hb'.2.2.2, sym_cross (by rw [List.take_append_drop]; exact hL) (by rw [List.take_append_drop]; exact hR) (fun x y hx hy => ?_) (fun x y hx hy => ?_)⟩
      · have hlen : 0 < (L.take (st - a)).length := by
          cases hz : L.take (st - a) with
          | nil => rw [hz] at hx; cases hx
          | cons _ _ => simp
        rw [List.length_take] at hlen
        rw [List.getLast?_eq_getElem?, List.length_take, List.getElem?_take, if_pos (by omega)] at hx
        rw [List.head?_eq_getElem?, List.getElem?_drop] at hy
        have hyl := (List.getElem?_eq_some_iff.1 hy).1
        have q := h3 (st - 1) (by omega) (by omega)
        obtain ⟨_, _, q2, q3⟩ := D (st - 1) (by omega) (by omega) (by omega) (by omega)
        rw [q2] at q
        have q4 := Lt.tot q3 q
        rw [show st - 1 = A.length + (min (st - a) L.length - 1) by omega, gL _ (by omega), show mid + m - 1 - (A.length + (min (st - a) L.length - 1)) = A.length + L.length + (mid - st + 0) by omega, gR _ (by omega), take_get hx, take_get hy] at q4
        exact q4
      · have hlen : 0 < (R.take (mid - st)).length := by
          cases hz : R.take (mid - st) with
          | nil => rw [hz] at hy; cases hy
          | cons _ _ => simp
        rw [List.length_take] at hlen
        rw [List.getLast?_eq_getElem?, List.length_take, List.getElem?_take, if_pos (by omega)] at hy
        rw [List.head?_eq_getElem?, List.getElem?_drop] at hx
        have hxl := (List.getElem?_eq_some_iff.1 hx).1
        have q := h4 st (by omega) (by omega)
        obtain ⟨_, _, q2, q3⟩ := D st (by omega) (by omega) (by omega) (by omega)
        rw [q2] at q
        rw [show st = A.length + (st - a + 0) by omega, gL _ (by omega), show mid + m - 1 - (A.length + (st - a + 0)) = A.length + L.length + (min (mid - st) R.length - 1) by omega, gR _ (by omega), take_get hx, take_get hy] at q
        exact q
    have mono : ∀ (s0 r0 : Nat), (m ≤ mid ∧ s0 = a ∧ r0 = m ∨ mid < m ∧ s0 = mid + m - e ∧ r0 = mid) → ∀ c c', s0 ≤ c → c < c' → c' < r0 → ¬ cf (A ++ L ++ R ++ B)[mid + m - 1 - c']! (A ++ L ++ R ++ B)[c']! < 0 → ¬ cf (A ++ L ++ R ++ B)[mid + m - 1 - c]! (A ++ L ++ R ++ B)[c]! < 0 := by
      intro s0 r0 hs c c' h1 h2 h3 h4 h5
      obtain ⟨_, _, q2, _⟩ := D c (by omega) (by omega) (by omega) (by omega)
      obtain ⟨_, _, q2', _⟩ := D c' (by omega) (by omega) (by omega) (by omega)
      rw [q2'] at h4
      rw [q2] at h5
      exact h4 (((sR _ _ (by omega) (by omega) (by omega)).trans h5).trans (sL c c' (by omega) h2 (by omega)))
    have E1 : ((A.length : Int) + ((A.length + L.length + R.length : Nat) : Int)) / 2 = (mid : Int) := by omega
    have E2 : (mid : Int) + ((A.length + L.length : Nat) : Int) = ((mid + m : Nat) : Int) := by omega
    have E3 : ((mid + m : Nat) : Int) - 1 = ((mid + m - 1 : Nat) : Int) := by omega
    obtain ⟨l', wr, hw, ⟨S, rfl, g2, g3⟩, hr⟩ := run_put (M := M) (l := A ++ L ++ R ++ B) (e := 3) (f := fun x => [.int .i64 x]) (P := fun l' => ∃ S, l' = A ++ S ++ B ∧ Sd key S ∧ S.Perm (L ++ R))
      (ars := [.sl b 0 n 1 cap, .int .i64 A.length, .int .i64 (A.length + L.length : Nat), .int .i64 (A.length + L.length + R.length : Nat), g]) (by rw [C.ft]; exact ft222) (by simp) hb (fun _ => rfl) (by
        have finish : ∀ (s0 r0 st : Nat), (m ≤ mid ∧ s0 = a ∧ r0 = m ∨ mid < m ∧ s0 = mid + m - e ∧ r0 = mid) → s0 ≤ st → st ≤ r0 → (∀ c, s0 ≤ c → c < st → ¬ cf (A ++ L ++ R ++ B)[mid + m - 1 - c]! (A ++ L ++ R ++ B)[c]! < 0) → (∀ c, st ≤ c → c < r0 → cf (A ++ L ++ R ++ B)[mid + m - 1 - c]! (A ++ L ++ R ++ B)[c]! < 0) →
            ∀ (a5 a6 a7 a8 a9 a10 a11 a12 a16 a17 a18 a19 : AV) (lo : List (Nat × AV)), W M t222_0 ⟨⟨[.sl b 0 n 1 cap, .int .i64 A.length, .int .i64 (A.length + L.length : Nat), .int .i64 (A.length + L.length + R.length : Nat), g, a5, a6, a7, a8, a9, a10, a11, a12, .int .i64 mid, .int .i64 (mid + m : Nat), .int .i64 st, a16, a17, a18, a19], lo, h.put b (some (.cells (ints (A ++ L ++ R ++ B)) 3)), []⟩, []⟩
              fun x s => (x = .normal ∨ x = .ret) ∧ s.s.dfs = [] ∧ ∃ l', s.s.hp = h.put b (some (.cells (arr (fun x => [.int .i64 x]) l') 3)) ∧ Only b s.wr ∧ ∃ S, l' = A ++ S ++ B ∧ Sd key S ∧ S.Perm (L ++ R) := by
          intro s0 r0 st hs h1 h2 h3 h4 a5 a6 a7 a8 a9 a10 a11 a12 a16 a17 a18 a19 lo
          obtain ⟨k1, k2, k3, k4, k5⟩ := key1 s0 r0 st hs h1 h2 h3 h4
          obtain ⟨L1, hL1⟩ : ∃ x, x = L.take (st - a) := ⟨_, rfl⟩
          obtain ⟨L2, hL2⟩ : ∃ x, x = L.drop (st - a) := ⟨_, rfl⟩
          obtain ⟨R1, hR1⟩ : ∃ x, x = R.take (mid - st) := ⟨_, rfl⟩
          obtain ⟨R2, hR2⟩ : ∃ x, x = R.drop (mid - st) := ⟨_, rfl⟩
          have eL : L = L1 ++ L2 := by rw [hL1, hL2, List.take_append_drop]
          have eR : R = R1 ++ R2 := by rw [hR1, hR2, List.take_append_drop]
          have nL1 : L1.length = st - a := by rw [hL1, List.length_take]; omega
          have nL2 : L2.length = m - st := by rw [hL2, List.length_drop]; omega
          have nR1 : R1.length = mid - st := by rw [hR1, List.length_take]; omega
          have nR2 : R2.length = e - (mid + m - st) := by rw [hR2, List.length_drop]; omega
          rw [← hL1, ← hL2, ← hR1, ← hR2] at k5
          have sL1 : Sd key L1 := by rw [hL1]; exact hL.split.1
          have sL2 : Sd key L2 := by rw [hL2]; exact hL.split.2
          have sR1 : Sd key R1 := by rw [hR1]; exact hR.split.1
          have sR2 : Sd key R2 := by rw [hR2]; exact hR.split.2
          have hM1 : L1 ≠ [] → R1 ≠ [] → Mrg M h b n cap g key A L1 R1 (L2 ++ R2 ++ B) := fun e1 e2 => m222 C hb hn hc hcf k A L1 R1 (L2 ++ R2 ++ B) (by omega) e1 e2 (by simp; omega) sL1 sR1 (fun x hx y hy => hlt x (by rw [eL]; simp [hx]) y (by rw [eR]; simp [hy])) (fun x hx => ho x (by rw [eL]; simp [hx])) (fun y hy => ho' y (by rw [eR]; simp [hy]))
          have fin2 : ∀ lo wr l', Only b wr → l' = (A ++ L1) ++ R1 ++ L2 ++ (R2 ++ B) → W M (.seq t222_2 t222_3) ⟨⟨[.sl b 0 n 1 cap, .int .i64 A.length, .int .i64 (A.length + L.length : Nat), .int .i64 (A.length + L.length + R.length : Nat), g, a5, a6, a7, a8, a9, a10, a11, a12, .int .i64 mid, .int .i64 (mid + m : Nat), .int .i64 st, a16, a17, a18, .int .i64 (((mid + m : Nat) : Int) - (st : Int))], lo, h.put b (some (.cells (ints l') 3)), []⟩, wr⟩
              fun x s => (x = .normal ∨ x = .ret) ∧ s.s.dfs = [] ∧ ∃ l', s.s.hp = h.put b (some (.cells (arr (fun x => [.int .i64 x]) l') 3)) ∧ Only b s.wr ∧ ∃ S, l' = A ++ S ++ B ∧ Sd key S ∧ S.Perm (L ++ R) := by
            intro lo wr l' w1 w2
            apply W.seq
            refine pc2 A L1 R1 (L2 ++ R2 ++ B) hM1 sL1 sR1 (by rw [w2]; simp) (by omega) (by omega) (by omega) w1 (fun S1 lo wr l' v1 v2 v3 v4 => ?_)
            apply SQn
            have nS1 : S1.length = mid - a := by rw [v3.length_eq, List.length_append]; omega
            have hM2 : L2 ≠ [] → R2 ≠ [] → Mrg M h b n cap g key (A ++ S1) L2 R2 B := fun e1 e2 => m222 C hb hn hc hcf k (A ++ S1) L2 R2 B (by omega) e1 e2 (by simp; omega) sL2 sR2 (fun x hx y hy => hlt x (by rw [eL]; simp [hx]) y (by rw [eR]; simp [hy])) (fun x hx => ho x (by rw [eL]; simp [hx])) (fun y hy => ho' y (by rw [eR]; simp [hy]))
            refine pc3 (A ++ S1) L2 R2 B hM2 sL2 sR2 (by rw [v4]; simp) (by simp; omega) (by simp; omega) (by simp; omega) v1 (fun S2 lo wr l' u1 u2 u3 u4 => ?_)
            refine ⟨.inl rfl, rfl, l', rfl, u1, S1 ++ S2, by rw [u4]; simp, v2.app u2 (fun x hx y hy => k5 x (v3.mem_iff.1 hx) y (u3.mem_iff.1 hy)), ?_⟩
            have p1 : (S1 ++ S2).Perm ((L1 ++ R1) ++ (L2 ++ R2)) := v3.append u3
            have p2 : ((L1 ++ R1) ++ (L2 ++ R2)).Perm ((L1 ++ L2) ++ (R1 ++ R2)) := by
              have : (R1 ++ L2).Perm (L2 ++ R1) := List.perm_append_comm
              have := (this.append_right R2).append_left L1
              simpa using this
            rw [eL, eR]
            exact p1.trans p2
          unfold t222_0
          repeat' first
            | (refine pc1 C hb hn (A ++ L1) L2 R1 (R2 ++ B) (by rw [eL, eR]; simp) (by simp; omega) (by simp; omega) (by simp; omega) (by simp; omega) Only.nil (fun lo wr l' w1 w2 => SQn (fin2 lo wr l' w1 w2)))
            | apply W.seq
            | apply SQn
            | apply W.region
            | apply WO.nil
            | apply W.block
            | apply W.ret
            | apply W.exit
            | apply W.skip
            | apply SQr
            | apply SQe
            | apply BQn
            | apply BQr
            | apply BQe
            | (apply BQo; exact rfl)
            | apply LQe
            | apply LQr
            | (apply W.condT; exact rfl)
            | (apply W.condF; exact rfl)
            | (apply W.cond; exact rfl; all_goals intro _)
            | (apply WO.gT; exact rfl)
            | (apply WO.gF; exact rfl)
            | (apply WO.sT; exact rfl)
            | (apply WO.sF; exact rfl)
            | (apply WO.sU; exact rfl)
            | (apply WO.lss; exact rfl; exact rfl; all_goals first | (intro _; exfalso; omega) | intro _)
            | (apply WO.gtr; exact rfl; exact rfl; all_goals first | (intro _; exfalso; omega) | intro _)
            | (apply WO.eql; exact rfl; exact rfl; all_goals first | (intro _; exfalso; omega) | intro _)
            | (apply WO.cvu; exact rfl; omega)
            | (apply WO.cvi; exact rfl; omega)
            | (apply WO.shr1; exact rfl)
            | (apply WO.pkT; exact rfl; exact rfl)
            | (apply WO.pkF; exact rfl; exact rfl)
            | (apply WO.add; exact rfl; exact rfl; omega)
            | (apply WO.sub; exact rfl; exact rfl; omega)
            | (apply WO.seql; exact rfl; exact rfl; all_goals first | (intro h; exact absurd h (by decide)) | (intro h; exact absurd rfl h) | (intro h; contradiction) | intro _)
            | (apply WO.clb; exact rfl; exact rfl; exact rfl; all_goals first | (intro h; exact absurd h (by decide)) | intro _)
            | (apply WO.cll; exact rfl; exact rfl; exact rfl)
            | (apply WO.pl; exact rfl; exact rfl)
            | (apply WO.pp; exact rfl; exact rfl)
        unfold b222
        simp only [List.map_cons, List.map_nil, List.getElem?_cons_zero, List.getElem?_cons_succ, List.getElem?_nil, Option.getD_some, Option.getD_none]
        by_cases cm : m ≤ mid
        · have hs : m ≤ mid ∧ A.length = a ∧ A.length + L.length = m ∨ mid < m ∧ A.length = mid + m - e ∧ A.length + L.length = mid := .inl ⟨cm, ea.symm, em.symm⟩
          repeat' first
            | apply W.seq
            | apply SQn
            | apply W.region
            | apply WO.nil
            | apply W.block
            | apply W.ret
            | apply W.exit
            | apply W.skip
            | apply SQr
            | apply SQe
            | apply BQn
            | apply BQr
            | apply BQe
            | (apply BQo; exact rfl)
            | apply LQe
            | apply LQr
            | (apply W.condT; exact rfl)
            | (apply W.condF; exact rfl)
            | (apply W.cond; exact rfl; all_goals intro _)
            | (apply WO.gT; exact rfl)
            | (apply WO.gF; exact rfl)
            | (apply WO.sT; exact rfl)
            | (apply WO.sF; exact rfl)
            | (apply WO.sU; exact rfl)
            | (apply WO.lss; exact rfl; exact rfl; all_goals first | (intro _; exfalso; omega) | intro _)
            | (apply WO.gtr; exact rfl; exact rfl; all_goals first | (intro _; exfalso; omega) | intro _)
            | (apply WO.eql; exact rfl; exact rfl; all_goals first | (intro _; exfalso; omega) | intro _)
            | (apply WO.cvu; exact rfl; omega)
            | (apply WO.cvi; exact rfl; omega)
            | (apply WO.shr1; exact rfl)
            | (apply WO.pkT; exact rfl; exact rfl)
            | (apply WO.pkF; exact rfl; exact rfl)
            | (apply WO.add; exact rfl; exact rfl; omega)
            | (apply WO.sub; exact rfl; exact rfl; omega)
            | (apply WO.seql; exact rfl; exact rfl; all_goals first | (intro h; exact absurd h (by decide)) | (intro h; exact absurd rfl h) | (intro h; contradiction) | intro _)
            | (apply WO.clb; exact rfl; exact rfl; exact rfl; all_goals first | (intro h; exact absurd h (by decide)) | intro _)
            | (apply WO.cll; exact rfl; exact rfl; exact rfl)
            | (apply WO.pl; exact rfl; exact rfl)
            | (apply WO.pp; exact rfl; exact rfl)
          rw [E1, E2, E3]
          refine loop222_4 hn hb hc (A ++ L ++ R ++ B) hl (mid + m - 1) A.length (A.length + L.length) (by omega) (by omega) (by omega) (fun c q1 q2 => ⟨(D c (by omega) (by omega) (by omega) (by omega)).1, (D c (by omega) (by omega) (by omega) (by omega)).2.1⟩) _ _ _ _ _ _ _ _ _ _ _ _ _ _ _ (mono _ _ hs) L.length A.length (A.length + L.length) _ _ (by omega) (Nat.le_refl _) (by omega) (Nat.le_refl _) (fun k h1 h2 => by omega) (fun k h1 h2 => by omega) (fun st a18 lo k1 k2 k3 k4 => ?_)
          repeat' first
            | (exact finish _ _ st hs k1 k2 k3 k4 _ _ _ _ _ _ _ _ _ _ _ _ _)
            | apply W.seq
            | apply SQn
            | apply W.region
            | apply WO.nil
            | apply W.block
            | apply W.ret
            | apply W.exit
            | apply W.skip
            | apply SQr
            | apply SQe
            | apply BQn
            | apply BQr
            | apply BQe
            | (apply BQo; exact rfl)
            | apply LQe
            | apply LQr
            | (apply W.condT; exact rfl)
            | (apply W.condF; exact rfl)
            | (apply W.cond; exact rfl; all_goals intro _)
            | (apply WO.gT; exact rfl)
            | (apply WO.gF; exact rfl)
            | (apply WO.sT; exact rfl)
            | (apply WO.sF; exact rfl)
            | (apply WO.sU; exact rfl)
            | (apply WO.lss; exact rfl; exact rfl; all_goals first | (intro _; exfalso; omega) | intro _)
            | (apply WO.gtr; exact rfl; exact rfl; all_goals first | (intro _; exfalso; omega) | intro _)
            | (apply WO.eql; exact rfl; exact rfl; all_goals first | (intro _; exfalso; omega) | intro _)
            | (apply WO.cvu; exact rfl; omega)
            | (apply WO.cvi; exact rfl; omega)
            | (apply WO.shr1; exact rfl)
            | (apply WO.pkT; exact rfl; exact rfl)
            | (apply WO.pkF; exact rfl; exact rfl)
            | (apply WO.add; exact rfl; exact rfl; omega)
            | (apply WO.sub; exact rfl; exact rfl; omega)
            | (apply WO.seql; exact rfl; exact rfl; all_goals first | (intro h; exact absurd h (by decide)) | (intro h; exact absurd rfl h) | (intro h; contradiction) | intro _)
            | (apply WO.clb; exact rfl; exact rfl; exact rfl; all_goals first | (intro h; exact absurd h (by decide)) | intro _)
            | (apply WO.cll; exact rfl; exact rfl; exact rfl)
            | (apply WO.pl; exact rfl; exact rfl)
            | (apply WO.pp; exact rfl; exact rfl)
        · have hs : m ≤ mid ∧ mid + m - e = a ∧ mid = m ∨ mid < m ∧ mid + m - e = mid + m - e ∧ mid = mid := .inr ⟨by omega, rfl, rfl⟩
          have E4 : ((mid + m : Nat) : Int) - ((A.length + L.length + R.length : Nat) : Int) = ((mid + m - e : Nat) : Int) := by omega
          repeat' first
            | apply W.seq
            | apply SQn
            | apply W.region
            | apply WO.nil
            | apply W.block
            | apply W.ret
            | apply W.exit
            | apply W.skip
            | apply SQr
            | apply SQe
            | apply BQn
            | apply BQr
            | apply BQe
            | (apply BQo; exact rfl)
            | apply LQe
            | apply LQr
            | (apply W.condT; exact rfl)
            | (apply W.condF; exact rfl)
            | (apply W.cond; exact rfl; all_goals intro _)
            | (apply WO.gT; exact rfl)
            | (apply WO.gF; exact rfl)
            | (apply WO.sT; exact rfl)
            | (apply WO.sF; exact rfl)
            | (apply WO.sU; exact rfl)
            | (apply WO.lss; exact rfl; exact rfl; all_goals first | (intro _; exfalso; omega) | intro _)
            | (apply WO.gtr; exact rfl; exact rfl; all_goals first | (intro _; exfalso; omega) | intro _)
            | (apply WO.eql; exact rfl; exact rfl; all_goals first | (intro _; exfalso; omega) | intro _)
            | (apply WO.cvu; exact rfl; omega)
            | (apply WO.cvi; exact rfl; omega)
            | (apply WO.shr1; exact rfl)
            | (apply WO.pkT; exact rfl; exact rfl)
            | (apply WO.pkF; exact rfl; exact rfl)
            | (apply WO.add; exact rfl; exact rfl; omega)
            | (apply WO.sub; exact rfl; exact rfl; omega)
            | (apply WO.seql; exact rfl; exact rfl; all_goals first | (intro h; exact absurd h (by decide)) | (intro h; exact absurd rfl h) | (intro h; contradiction) | intro _)
            | (apply WO.clb; exact rfl; exact rfl; exact rfl; all_goals first | (intro h; exact absurd h (by decide)) | intro _)
            | (apply WO.cll; exact rfl; exact rfl; exact rfl)
            | (apply WO.pl; exact rfl; exact rfl)
            | (apply WO.pp; exact rfl; exact rfl)
          rw [E1, E2, E3, E4]
          refine loop222_4 hn hb hc (A ++ L ++ R ++ B) hl (mid + m - 1) (mid + m - e) mid (by omega) (by omega) (by omega) (fun c q1 q2 => ⟨(D c (by omega) (by omega) (by omega) (by omega)).1, (D c (by omega) (by omega) (by omega) (by omega)).2.1⟩) _ _ _ _ _ _ _ _ _ _ _ _ _ _ _ (mono _ _ hs) L.length (mid + m - e) mid _ _ (by omega) (Nat.le_refl _) (by omega) (Nat.le_refl _) (fun k h1 h2 => by omega) (fun k h1 h2 => by omega) (fun st a18 lo k1 k2 k3 k4 => ?_)
          repeat' first
            | (exact finish _ _ st hs k1 k2 k3 k4 _ _ _ _ _ _ _ _ _ _ _ _ _)
            | apply W.seq
            | apply SQn
            | apply W.region
            | apply WO.nil
            | apply W.block
            | apply W.ret
            | apply W.exit
            | apply W.skip
            | apply SQr
            | apply SQe
            | apply BQn
            | apply BQr
            | apply BQe
            | (apply BQo; exact rfl)
            | apply LQe
            | apply LQr
            | (apply W.condT; exact rfl)
            | (apply W.condF; exact rfl)
            | (apply W.cond; exact rfl; all_goals intro _)
            | (apply WO.gT; exact rfl)
            | (apply WO.gF; exact rfl)
            | (apply WO.sT; exact rfl)
            | (apply WO.sF; exact rfl)
            | (apply WO.sU; exact rfl)
            | (apply WO.lss; exact rfl; exact rfl; all_goals first | (intro _; exfalso; omega) | intro _)
            | (apply WO.gtr; exact rfl; exact rfl; all_goals first | (intro _; exfalso; omega) | intro _)
            | (apply WO.eql; exact rfl; exact rfl; all_goals first | (intro _; exfalso; omega) | intro _)
            | (apply WO.cvu; exact rfl; omega)
            | (apply WO.cvi; exact rfl; omega)
            | (apply WO.shr1; exact rfl)
            | (apply WO.pkT; exact rfl; exact rfl)
            | (apply WO.pkF; exact rfl; exact rfl)
            | (apply WO.add; exact rfl; exact rfl; omega)
            | (apply WO.sub; exact rfl; exact rfl; omega)
            | (apply WO.seql; exact rfl; exact rfl; all_goals first | (intro h; exact absurd h (by decide)) | (intro h; exact absurd rfl h) | (intro h; contradiction) | intro _)
            | (apply WO.clb; exact rfl; exact rfl; exact rfl; all_goals first | (intro h; exact absurd h (by decide)) | intro _)
            | (apply WO.cll; exact rfl; exact rfl; exact rfl)
            | (apply WO.pl; exact rfl; exact rfl)
            | (apply WO.pp; exact rfl; exact rfl)
        )
    exact ⟨S, wr, hw, ⟨g2, g3⟩, ct_of_run C.n222 hr⟩
end Go.Ab.Ch1

/-
  Own work: slices.SortStableFunc over ints: blocks and merges, whole.
-/
namespace Go.Ab.Ch1
open Go.Ab.Sort
variable {M : Mach} {h : Heap} {b n : Nat} {cap : Option Nat} {g : AV}
variable {key : Int → Int} {ok : Int → Prop} {cf : Int → Int → Int}

theorem loop174_0 (C : CS M) (hb : b < h.length) (hn : n < 2305843009213693952) (hc : Cmp M h b g ok cf) (hcf : ∀ x y, ok x → ok y → (cf x y < 0 ↔ key y < key x)) (a6 : AV) {Q : Ex → StW → Prop} : ∀ (r : Nat) (P X : List Int) (lo : List (Nat × AV)) (wr : List Nat), X.length ≤ r → (P ++ X).length = n → Only b wr → X.Pairwise (· < ·) → (∀ y ∈ X, ok y) →
    (∀ P' X' lo wr l a5, Only b wr → l = P' ++ X' → l.length = n → X'.length < 20 → X'.Pairwise (· < ·) → (∀ y ∈ X', ok y) → (∀ S, Sd key S → S.Perm X' → ∃ T, P' ++ S = P ++ T ∧ Ch key 20 T X) → Q (.exit 0) ⟨⟨[.sl b 0 n 1 cap, .int .i64 n, g, .int .i64 20, .int .i64 P'.length, a5, a6], lo, h.put b (some (.cells (ints l) 3)), []⟩, wr⟩) →
    W M (.loop b174_0) ⟨⟨[.sl b 0 n 1 cap, .int .i64 n, g, .int .i64 20, .int .i64 P.length, .int .i64 (P.length + 20 : Nat), a6], lo, h.put b (some (.cells (ints (P ++ X)) 3)), []⟩, wr⟩ Q := by
  intro r
  induction r with
  | zero =>
    intro P X lo wr hr hl hw hlt ho hQ
    have hl' : P.length + X.length = n := by simpa using hl
    refine W.loop ?_
    unfold b174_0
    repeat' first
      | apply W.seq
      | apply SQn
      | apply W.region
      | apply WO.nil
      | apply W.block
      | apply W.ret
      | apply W.exit
      | apply W.skip
      | apply SQr
      | apply SQe
      | apply BQn
      | apply BQr
      | apply BQe
      | (apply BQo; exact rfl)
      | apply LQe
      | apply LQr
      | (apply W.condT; exact rfl)
      | (apply W.condF; exact rfl)
      | (apply W.cond; exact rfl; all_goals intro _)
      | (apply WO.leq; exact rfl; exact rfl; all_goals first | (intro _; exfalso; omega) | intro _)
      | (apply WO.add; exact rfl; exact rfl; omega)
      | (apply WO.clb; exact rfl; exact rfl; exact rfl; all_goals first | (intro h; exact absurd h (by decide)) | intro _)
      | (apply WO.cll; exact rfl; exact rfl; exact rfl)
      | (apply WO.pl; exact rfl; exact rfl)
      | (apply WO.pp; exact rfl; exact rfl)
    · exact hQ P X _ _ _ _ hw rfl hl (by omega) hlt ho (fun S h1 h2 => ⟨S, rfl, .last (by rw [h2.length_eq]; omega) h1 h2⟩)
  | succ r ih =>
    intro P X lo wr hr hl hw hlt ho hQ
    have hl' : P.length + X.length = n := by simpa using hl
    refine W.loop ?_
    by_cases hX : X.length < 20
    · unfold b174_0
      repeat' first
        | apply W.seq
        | apply SQn
        | apply W.region
        | apply WO.nil
        | apply W.block
        | apply W.ret
        | apply W.exit
        | apply W.skip
        | apply SQr
        | apply SQe
        | apply BQn
        | apply BQr
        | apply BQe
        | (apply BQo; exact rfl)
        | apply LQe
        | apply LQr
        | (apply W.condT; exact rfl)
        | (apply W.condF; exact rfl)
        | (apply W.cond; exact rfl; all_goals intro _)
        | (apply WO.leq; exact rfl; exact rfl; all_goals first | (intro _; exfalso; omega) | intro _)
        | (apply WO.add; exact rfl; exact rfl; omega)
        | (apply WO.clb; exact rfl; exact rfl; exact rfl; all_goals first | (intro h; exact absurd h (by decide)) | intro _)
        | (apply WO.cll; exact rfl; exact rfl; exact rfl)
        | (apply WO.pl; exact rfl; exact rfl)
        | (apply WO.pp; exact rfl; exact rfl)
      · exact hQ P X _ _ _ _ hw rfl hl hX hlt ho (fun S h1 h2 => ⟨S, rfl, .last (by rw [h2.length_eq]; omega) h1 h2⟩)
    · obtain ⟨X1, X2, rfl, h1⟩ : ∃ X1 X2, X = X1 ++ X2 ∧ X1.length = 20 := ⟨X.take 20, X.drop 20, by simp, by simp; omega⟩
      have hl1 : (X1 ++ X2).length = X1.length + X2.length := List.length_append
      have hpw := List.pairwise_append.1 hlt
      obtain ⟨S, wr', hw', ⟨g1, g2⟩, hcc⟩ := r221 (cap := cap) (A := P) (X := X1) (B := X2) C hb hn hc hcf (by simpa using hl) hpw.1 (fun y hy => ho y (by simp [hy]))
      have hS : S.length = 20 := by rw [g2.length_eq, h1]
      rw [h1, List.append_assoc] at hcc
      unfold b174_0
      repeat' first
        | apply W.seq
        | apply SQn
        | apply W.region
        | apply WO.nil
        | apply W.block
        | apply W.ret
        | apply W.exit
        | apply W.skip
        | apply SQr
        | apply SQe
        | apply BQn
        | apply BQr
        | apply BQe
        | (apply BQo; exact rfl)
        | apply LQe
        | apply LQr
        | (apply W.condT; exact rfl)
        | (apply W.condF; exact rfl)
        | (apply W.cond; exact rfl; all_goals intro _)
        | (apply WO.leq; exact rfl; exact rfl; all_goals first | (intro _; exfalso; omega) | intro _)
        | (apply WO.add; exact rfl; exact rfl; omega)
        | (apply WO.ct; exact rfl; exact rfl; first | exact hcc)
        | (apply WO.ctn; exact rfl; exact rfl; first | exact hcc)
        | (apply WD.ct; exact rfl; exact rfl; exact rfl; first | exact hcc)
        | (apply WO.clb; exact rfl; exact rfl; exact rfl; all_goals first | (intro h; exact absurd h (by decide)) | intro _)
        | (apply WO.cll; exact rfl; exact rfl; exact rfl)
        | (apply WO.pl; exact rfl; exact rfl)
        | (apply WO.pp; exact rfl; exact rfl)
      refine LQn ?_
      rw [show ((P.length + 20 : Nat) : Int) + 20 = (((P ++ S).length + 20 : Nat) : Int) by simp; omega, show ((P.length + 20 : Nat) : Int) = ((P ++ S).length : Int) by simp; omega]
      refine ih (P ++ S) X2 _ _ (by omega) (by simp; omega) (hw'.app hw) hpw.2.1 (fun y hy => ho y (by simp [hy])) (fun P' X' lo wr l a5 k1 k2 k3 k4 k5 k6 k7 => ?_)
      refine hQ P' X' lo wr l a5 k1 k2 k3 k4 k5 k6 (fun S' h3 h4 => ?_)
      obtain ⟨T, e1, e2⟩ := k7 S' h3 h4
      exact ⟨S ++ T, by rw [e1]; simp, .more hS g1 g2 e2⟩

theorem loop174_1 (C : CS M) (hb : b < h.length) (hn : n < 2305843009213693952) (hc : Cmp M h b g ok cf) (hcf : ∀ x y, ok x → ok y → (cf x y < 0 ↔ key y < key x)) (bs : Nat) (hbs : 0 < bs) (hbn : bs < n) (a6 : AV) {Q : Ex → StW → Prop} : ∀ (r : Nat) (P T T0 : List Int) (lo : List (Nat × AV)) (wr : List Nat), T.length ≤ r → (P ++ T).length = n → Only b wr → Ch key bs T T0 → T0.Pairwise (· < ·) → (∀ y ∈ T0, ok y) →
    (∀ P' T' T0' lo wr l a5, Only b wr → l = P' ++ T' → l.length = n → T'.length < 2 * bs → Ch key bs T' T0' → T0'.Pairwise (· < ·) → (∀ y ∈ T0', ok y) → (∀ U, Ch key (2 * bs) U T0' → ∃ U', P' ++ U = P ++ U' ∧ Ch key (2 * bs) U' T0) → Q (.exit 4) ⟨⟨[.sl b 0 n 1 cap, .int .i64 n, g, .int .i64 bs, .int .i64 P'.length, a5, a6], lo, h.put b (some (.cells (ints l) 3)), []⟩, wr⟩) →
    W M (.loop b174_1) ⟨⟨[.sl b 0 n 1 cap, .int .i64 n, g, .int .i64 bs, .int .i64 P.length, .int .i64 (P.length + 2 * bs : Nat), a6], lo, h.put b (some (.cells (ints (P ++ T)) 3)), []⟩, wr⟩ Q := by
  intro r
  induction r with
  | zero =>
    intro P T T0 lo wr hr hl hw hch hlt ho hQ
    have hl' : P.length + T.length = n := by simpa using hl
    refine W.loop ?_
    unfold b174_1
    repeat' first
      | apply W.seq
      | apply SQn
      | apply W.region
      | apply WO.nil
      | apply W.block
      | apply W.ret
      | apply W.exit
      | apply W.skip
      | apply SQr
      | apply SQe
      | apply BQn
      | apply BQr
      | apply BQe
      | (apply BQo; exact rfl)
      | apply LQe
      | apply LQr
      | (apply W.condT; exact rfl)
      | (apply W.condF; exact rfl)
      | (apply W.cond; exact rfl; all_goals intro _)
      | (apply WO.leq; exact rfl; exact rfl; all_goals first | (intro _; exfalso; omega) | intro _)
      | (apply WO.add; exact rfl; exact rfl; omega)
      | (apply WO.mul; exact rfl; exact rfl; omega)
      | (apply WO.clb; exact rfl; exact rfl; exact rfl; all_goals first | (intro h; exact absurd h (by decide)) | intro _)
      | (apply WO.cll; exact rfl; exact rfl; exact rfl)
      | (apply WO.pl; exact rfl; exact rfl)
      | (apply WO.pp; exact rfl; exact rfl)
    · exact hQ P T T0 _ _ _ _ hw rfl hl (by omega) hch hlt ho (fun U h => ⟨U, rfl, h⟩)
  | succ r ih =>
    intro P T T0 lo wr hr hl hw hch hlt ho hQ
    have hl' : P.length + T.length = n := by simpa using hl
    refine W.loop ?_
    by_cases hT : T.length < 2 * bs
    · unfold b174_1
      repeat' first
        | apply W.seq
        | apply SQn
        | apply W.region
        | apply WO.nil
        | apply W.block
        | apply W.ret
        | apply W.exit
        | apply W.skip
        | apply SQr
        | apply SQe
        | apply BQn
        | apply BQr
        | apply BQe
        | (apply BQo; exact rfl)
        | apply LQe
        | apply LQr
        | (apply W.condT; exact rfl)
        | (apply W.condF; exact rfl)
        | (apply W.cond; exact rfl; all_goals intro _)
        | (apply WO.leq; exact rfl; exact rfl; all_goals first | (intro _; exfalso; omega) | intro _)
        | (apply WO.add; exact rfl; exact rfl; omega)
        | (apply WO.mul; exact rfl; exact rfl; omega)
        | (apply WO.clb; exact rfl; exact rfl; exact rfl; all_goals first | (intro h; exact absurd h (by decide)) | intro _)
        | (apply WO.cll; exact rfl; exact rfl; exact rfl)
        | (apply WO.pl; exact rfl; exact rfl)
        | (apply WO.pp; exact rfl; exact rfl)
      · exact hQ P T T0 _ _ _ _ hw rfl hl hT hch hlt ho (fun U h => ⟨U, rfl, h⟩)
    · obtain ⟨S1, S10, m1, m10, rfl, rfl, h1, h2, h3, h4⟩ := hch.full (by omega)
      have hm1 : (S1 ++ m1).length = S1.length + m1.length := List.length_append
      obtain ⟨S2, S20, T2, T20, rfl, rfl, h5, h6, h7, h8⟩ := h4.full (by omega)
      have hm2 : (S2 ++ T2).length = S2.length + T2.length := List.length_append
      have hpw := List.pairwise_append.1 hlt
      have hpw2 := List.pairwise_append.1 hpw.2.1
      have hcross : ∀ x ∈ S1, ∀ y ∈ S2, x < y := fun x hx y hy => hpw.2.2 x (h3.mem_iff.1 hx) y (by simp [h7.mem_iff.1 hy])
      obtain ⟨S, wr', hw', ⟨g1, g2⟩, hcc⟩ := m222 (cap := cap) C hb hn hc hcf (S1.length + S2.length) P S1 S2 T2 (Nat.le_refl _) (List.length_pos_iff.1 (by omega)) (List.length_pos_iff.1 (by omega)) (by simp at hl ⊢; omega) h2 h6 hcross (fun x hx => ho x (by simp [h3.mem_iff.1 hx])) (fun y hy => ho y (by simp [h7.mem_iff.1 hy]))
      have hS : S.length = 2 * bs := by rw [g2.length_eq, List.length_append]; omega
      have hcc' : CT M (fn 222) [.sl b 0 n 1 cap, .int .i64 P.length, .int .i64 ((P.length : Int) + (bs : Int)), .int .i64 (P.length + 2 * bs : Nat), g] (h.put b (some (.cells (ints (P ++ (S1 ++ (S2 ++ T2)))) 3))) ⟨.tup [], h.put b (some (.cells (ints (P ++ S ++ T2)) 3)), wr'⟩ := by
        rw [show (P.length : Int) + (bs : Int) = ((P.length + S1.length : Nat) : Int) by omega, show P.length + 2 * bs = P.length + S1.length + S2.length by omega, show P ++ (S1 ++ (S2 ++ T2)) = P ++ S1 ++ S2 ++ T2 by simp]
        exact hcc
      unfold b174_1
      repeat' first
        | apply W.seq
        | apply SQn
        | apply W.region
        | apply WO.nil
        | apply W.block
        | apply W.ret
        | apply W.exit
        | apply W.skip
        | apply SQr
        | apply SQe
        | apply BQn
        | apply BQr
        | apply BQe
        | (apply BQo; exact rfl)
        | apply LQe
        | apply LQr
        | (apply W.condT; exact rfl)
        | (apply W.condF; exact rfl)
        | (apply W.cond; exact rfl; all_goals intro _)
        | (apply WO.leq; exact rfl; exact rfl; all_goals first | (intro _; exfalso; omega) | intro _)
        | (apply WO.add; exact rfl; exact rfl; omega)
        | (apply WO.mul; exact rfl; exact rfl; omega)
        | (apply WO.ct; exact rfl; exact rfl; first | exact hcc')
        | (apply WO.ctn; exact rfl; exact rfl; first | exact hcc')
        | (apply WD.ct; exact rfl; exact rfl; exact rfl; first | exact hcc')
        | (apply WO.clb; exact rfl; exact rfl; exact rfl; all_goals first | (intro h; exact absurd h (by decide)) | intro _)
        | (apply WO.cll; exact rfl; exact rfl; exact rfl)
        | (apply WO.pl; exact rfl; exact rfl)
        | (apply WO.pp; exact rfl; exact rfl)
      refine LQn ?_
      rw [show ((P.length + 2 * bs : Nat) : Int) + 2 * (bs : Int) = (((P ++ S).length + 2 * bs : Nat) : Int) by simp; omega, show ((P.length + 2 * bs : Nat) : Int) = ((P ++ S).length : Int) by simp; omega]
      refine ih (P ++ S) T2 T20 _ _ (by omega) (by simp; omega) (hw'.app hw) h8 hpw2.2.1 (fun y hy => ho y (by simp [hy])) (fun P' T' T0' lo wr l a5 k1 k2 k3 k4 k5 k6 k7 k8 => ?_)
      refine hQ P' T' T0' lo wr l a5 k1 k2 k3 k4 k5 k6 k7 (fun U hU => ?_)
      obtain ⟨U', e1, e2⟩ := k8 U hU
      refine ⟨S ++ U', by rw [e1]; simp, ?_⟩
      have : Ch key (2 * bs) (S ++ U') ((S10 ++ S20) ++ T20) := .more hS g1 (g2.trans (h3.append h7)) e2
      simpa using this

set_option maxHeartbeats 1000000 in
theorem loop174_2 (C : CS M) (hb : b < h.length) (hn : n < 2305843009213693952) (hc : Cmp M h b g ok cf) (hcf : ∀ x y, ok x → ok y → (cf x y < 0 ↔ key y < key x)) (l0 : List Int) (hlt : l0.Pairwise (· < ·)) (ho : ∀ y ∈ l0, ok y) {Q : Ex → StW → Prop} : ∀ (r bs : Nat) (l : List Int) (a4 a5 a6 : AV) (lo : List (Nat × AV)) (wr : List Nat), n - bs ≤ r → 0 < bs → l.length = n → Only b wr → Ch key bs l l0 →
    (∀ l a3 a4 a5 a6 lo wr, Only b wr → Sd key l → l.Perm l0 → Q (.exit 2) ⟨⟨[.sl b 0 n 1 cap, .int .i64 n, g, a3, a4, a5, a6], lo, h.put b (some (.cells (ints l) 3)), []⟩, wr⟩) →
    W M (.loop b174_2) ⟨⟨[.sl b 0 n 1 cap, .int .i64 n, g, .int .i64 bs, a4, a5, a6], lo, h.put b (some (.cells (ints l) 3)), []⟩, wr⟩ Q := by
  intro r
  induction r with
  | zero =>
    intro bs l a4 a5 a6 lo wr hr hbs hl hw hch hQ
    refine W.loop ?_
    unfold b174_2
    repeat' first
      | apply W.seq
      | apply SQn
      | apply W.region
      | apply WO.nil
      | apply W.block
      | apply W.ret
      | apply W.exit
      | apply W.skip
      | apply SQr
      | apply SQe
      | apply BQn
      | apply BQr
      | apply BQe
      | (apply BQo; exact rfl)
      | apply LQe
      | apply LQr
      | (apply W.condT; exact rfl)
      | (apply W.condF; exact rfl)
      | (apply W.cond; exact rfl; all_goals intro _)
      | (apply WO.lss; exact rfl; exact rfl; all_goals first | (intro _; exfalso; omega) | intro _)
      | (apply WO.add; exact rfl; exact rfl; omega)
      | (apply WO.mul; exact rfl; exact rfl; omega)
      | (apply WO.clb; exact rfl; exact rfl; exact rfl; all_goals first | (intro h; exact absurd h (by decide)) | intro _)
      | (apply WO.cll; exact rfl; exact rfl; exact rfl)
      | (apply WO.pl; exact rfl; exact rfl)
      | (apply WO.pp; exact rfl; exact rfl)
    · exact hQ l _ _ _ _ _ _ hw (hch.done (by omega)) hch.perm
  | succ r ih =>
    intro bs l a4 a5 a6 lo wr hr hbs hl hw hch hQ
    refine W.loop ?_
    by_cases hd : n ≤ bs
    · unfold b174_2
      repeat' first
        | apply W.seq
        | apply SQn
        | apply W.region
        | apply WO.nil
        | apply W.block
        | apply W.ret
        | apply W.exit
        | apply W.skip
        | apply SQr
        | apply SQe
        | apply BQn
        | apply BQr
        | apply BQe
        | (apply BQo; exact rfl)
        | apply LQe
        | apply LQr
        | (apply W.condT; exact rfl)
        | (apply W.condF; exact rfl)
        | (apply W.cond; exact rfl; all_goals intro _)
        | (apply WO.lss; exact rfl; exact rfl; all_goals first | (intro _; exfalso; omega) | intro _)
        | (apply WO.add; exact rfl; exact rfl; omega)
        | (apply WO.mul; exact rfl; exact rfl; omega)
        | (apply WO.clb; exact rfl; exact rfl; exact rfl; all_goals first | (intro h; exact absurd h (by decide)) | intro _)
        | (apply WO.cll; exact rfl; exact rfl; exact rfl)
        | (apply WO.pl; exact rfl; exact rfl)
        | (apply WO.pp; exact rfl; exact rfl)
      · exact hQ l _ _ _ _ _ _ hw (hch.done (by omega)) hch.perm
    · have h0 : ([] : List Int).length = 0 := rfl
      unfold b174_2
      repeat' first
        | apply W.seq
        | apply SQn
        | apply W.region
        | apply WO.nil
        | apply W.block
        | apply W.ret
        | apply W.exit
        | apply W.skip
        | apply SQr
        | apply SQe
        | apply BQn
        | apply BQr
        | apply BQe
        | (apply BQo; exact rfl)
        | apply LQe
        | apply LQr
        | (apply W.condT; exact rfl)
        | (apply W.condF; exact rfl)
        | (apply W.cond; exact rfl; all_goals intro _)
        | (apply WO.lss; exact rfl; exact rfl; all_goals first | (intro _; exfalso; omega) | intro _)
        | (apply WO.add; exact rfl; exact rfl; omega)
        | (apply WO.mul; exact rfl; exact rfl; omega)
        | (apply WO.clb; exact rfl; exact rfl; exact rfl; all_goals first | (intro h; exact absurd h (by decide)) | intro _)
        | (apply WO.cll; exact rfl; exact rfl; exact rfl)
        | (apply WO.pl; exact rfl; exact rfl)
        | (apply WO.pp; exact rfl; exact rfl)
      rw [show (2 : Int) * (bs : Int) = ((([] : List Int).length + 2 * bs : Nat) : Int) by simp, show (AV.int .i64 0) = AV.int .i64 (([] : List Int).length : Int) from rfl]
      refine loop174_1 C hb hn hc hcf bs hbs (by omega) _ n [] l l0 _ _ (by omega) (by simpa using hl) hw hch hlt ho (fun P T T0 lo wr l a5 k1 k2 k3 k4 k5 k6 k7 k8 => ?_)
      have hlen : P.length + T.length = n := by rw [← k3, k2, List.length_append]
      by_cases hT : bs < T.length
      · obtain ⟨S1, S10, m1, m10, rfl, rfl, h1, h2, h3, h4⟩ := k5.full (by omega)
        have hm1 : (S1 ++ m1).length = S1.length + m1.length := List.length_append
        have hpw := List.pairwise_append.1 k6
        obtain ⟨S, wr', hw', ⟨g1, g2⟩, hcc⟩ := m222 (cap := cap) C hb hn hc hcf (S1.length + m1.length) P S1 m1 [] (Nat.le_refl _) (List.length_pos_iff.1 (by omega)) (List.length_pos_iff.1 (by omega)) (by simp; omega) h2 (h4.done (by omega)) (fun x hx y hy => hpw.2.2 x (h3.mem_iff.1 hx) y (h4.perm.mem_iff.1 hy)) (fun x hx => k7 x (by simp [h3.mem_iff.1 hx])) (fun y hy => k7 y (by simp [h4.perm.mem_iff.1 hy]))
        have hS : S.length ≤ 2 * bs := by rw [g2.length_eq, List.length_append]; omega
        have hcc' : CT M (fn 222) [.sl b 0 n 1 cap, .int .i64 P.length, .int .i64 ((P.length : Int) + (bs : Int)), .int .i64 n, g] (h.put b (some (.cells (ints l) 3))) ⟨.tup [], h.put b (some (.cells (ints (P ++ S)) 3)), wr'⟩ := by
          rw [show (P.length : Int) + (bs : Int) = ((P.length + S1.length : Nat) : Int) by omega, show ((n : Nat) : Int) = ((P.length + S1.length + m1.length : Nat) : Int) by omega, show l = P ++ S1 ++ m1 ++ [] by rw [k2]; simp, show P ++ S = P ++ S ++ [] by simp]
          exact hcc
        obtain ⟨U, e1, e2⟩ := k8 S (.last hS g1 (g2.trans (h3.append h4.perm)))
        repeat' first
          | apply W.seq
          | apply SQn
          | apply W.region
          | apply WO.nil
          | apply W.block
          | apply W.ret
          | apply W.exit
          | apply W.skip
          | apply SQr
          | apply SQe
          | apply BQn
          | apply BQr
          | apply BQe
          | (apply BQo; exact rfl)
          | apply LQe
          | apply LQr
          | (apply W.condT; exact rfl)
          | (apply W.condF; exact rfl)
          | (apply W.cond; exact rfl; all_goals intro _)
          | (apply WO.lss; exact rfl; exact rfl; all_goals first | (intro _; exfalso; omega) | intro _)
          | (apply WO.add; exact rfl; exact rfl; omega)
          | (apply WO.mul; exact rfl; exact rfl; omega)
          | (apply WO.ct; exact rfl; exact rfl; first | exact hcc')
          | (apply WO.ctn; exact rfl; exact rfl; first | exact hcc')
          | (apply WD.ct; exact rfl; exact rfl; exact rfl; first | exact hcc')
          | (apply WO.clb; exact rfl; exact rfl; exact rfl; all_goals first | (intro h; exact absurd h (by decide)) | intro _)
          | (apply WO.cll; exact rfl; exact rfl; exact rfl)
          | (apply WO.pl; exact rfl; exact rfl)
          | (apply WO.pp; exact rfl; exact rfl)
        refine LQn ?_
        rw [show (bs : Int) * 2 = ((2 * bs : Nat) : Int) by omega, e1, List.nil_append]
        exact ih (2 * bs) U _ _ _ _ _ (by omega) (by omega) (by have := congrArg List.length e1; simp at this; rw [← this, g2.length_eq]; simp; omega) (hw'.app k1) e2 hQ
      · obtain ⟨U, e1, e2⟩ := k8 T (.last (by omega) (k5.done (by omega)) k5.perm)
        repeat' first
          | apply W.seq
          | apply SQn
          | apply W.region
          | apply WO.nil
          | apply W.block
          | apply W.ret
          | apply W.exit
          | apply W.skip
          | apply SQr
          | apply SQe
          | apply BQn
          | apply BQr
          | apply BQe
          | (apply BQo; exact rfl)
          | apply LQe
          | apply LQr
          | (apply W.condT; exact rfl)
          | (apply W.condF; exact rfl)
          | (apply W.cond; exact rfl; all_goals intro _)
          | (apply WO.lss; exact rfl; exact rfl; all_goals first | (intro _; exfalso; omega) | intro _)
          | (apply WO.add; exact rfl; exact rfl; omega)
          | (apply WO.mul; exact rfl; exact rfl; omega)
          | (apply WO.clb; exact rfl; exact rfl; exact rfl; all_goals first | (intro h; exact absurd h (by decide)) | intro _)
          | (apply WO.cll; exact rfl; exact rfl; exact rfl)
          | (apply WO.pl; exact rfl; exact rfl)
          | (apply WO.pp; exact rfl; exact rfl)
        refine LQn ?_
        rw [show (bs : Int) * 2 = ((2 * bs : Nat) : Int) by omega, k2, e1, List.nil_append]
        exact ih (2 * bs) U _ _ _ _ _ (by omega) (by omega) (by have := congrArg List.length e1; simp at this; omega) k1 e2 hQ

/-- The stable order of a list of ascending numbers, by a comparison that tells their keys. -/
theorem r99 (C : CS M) (hb : b < h.length) (hn : n < 2305843009213693952) (hc : Cmp M h b g ok cf) (hcf : ∀ x y, ok x → ok y → (cf x y < 0 ↔ key y < key x)) {l : List Int} (hl : l.length = n) (hlt : l.Pairwise (· < ·)) (ho : ∀ y ∈ l, ok y) :
    ∃ S wr, Only b wr ∧ (Sd key S ∧ S.Perm l) ∧ CT M (fn 99) [.sl b 0 n 1 cap, g] (h.put b (some (.cells (ints l) 3))) ⟨.tup [], h.put b (some (.cells (ints S) 3)), wr⟩ := by
  have h0 : ([] : List Int).length = 0 := rfl
  obtain ⟨S, wr, hw, ⟨g1, g2⟩, hr⟩ := run_put (M := M) (l := l) (e := 3) (f := fun x => [.int .i64 x]) (P := fun l' => Sd key l' ∧ l'.Perm l)
    (ars := [.sl b 0 n 1 cap, .int .i64 n, g]) (by rw [C.ft]; exact ft174) (by simp) hb (fun _ => rfl) (by
      unfold b174
      simp only [List.map_cons, List.map_nil, List.getElem?_cons_zero, List.getElem?_cons_succ, List.getElem?_nil, Option.getD_some, Option.getD_none]
      repeat' first
        | apply W.seq
        | apply SQn
        | apply W.region
        | apply WO.nil
        | apply W.block
        | apply W.ret
        | apply W.exit
        | apply W.skip
        | apply SQr
        | apply SQe
        | apply BQn
        | apply BQr
        | apply BQe
        | (apply BQo; exact rfl)
        | apply LQe
        | apply LQr
        | (apply W.condT; exact rfl)
        | (apply W.condF; exact rfl)
        | (apply W.cond; exact rfl; all_goals intro _)
        | (apply WO.clb; exact rfl; exact rfl; exact rfl; all_goals first | (intro h; exact absurd h (by decide)) | intro _)
        | (apply WO.cll; exact rfl; exact rfl; exact rfl)
        | (apply WO.pl; exact rfl; exact rfl)
        | (apply WO.pp; exact rfl; exact rfl)
      refine loop174_0 C hb hn hc hcf _ n [] l _ _ (by omega) (by simpa using hl) Only.nil hlt ho (fun P X lo wr l' a5 k1 k2 k3 k4 k5 k6 k7 => ?_)
      have hlen : P.length + X.length = n := by rw [← k3, k2, List.length_append]
      obtain ⟨S, wr', hw', ⟨g1, g2⟩, hcc⟩ := r221 (cap := cap) (A := P) (X := X) (B := []) C hb hn hc hcf (by simpa using hlen) k5 k6
      have hcc' : CT M (fn 221) [.sl b 0 n 1 cap, .int .i64 P.length, .int .i64 n, g] (h.put b (some (.cells (ints l') 3))) ⟨.tup [], h.put b (some (.cells (ints (P ++ S)) 3)), wr'⟩ := by
        rw [show ((n : Nat) : Int) = ((P.length + X.length : Nat) : Int) by omega, show l' = P ++ X ++ [] by rw [k2]; simp, show P ++ S = P ++ S ++ [] by simp]
        exact hcc
      obtain ⟨T, e1, e2⟩ := k7 S g1 g2
      repeat' first
        | apply W.seq
        | apply SQn
        | apply W.region
        | apply WO.nil
        | apply W.block
        | apply W.ret
        | apply W.exit
        | apply W.skip
        | apply SQr
        | apply SQe
        | apply BQn
        | apply BQr
        | apply BQe
        | (apply BQo; exact rfl)
        | apply LQe
        | apply LQr
        | (apply W.condT; exact rfl)
        | (apply W.condF; exact rfl)
        | (apply W.cond; exact rfl; all_goals intro _)
        | (apply WO.ct; exact rfl; exact rfl; first | exact hcc')
        | (apply WO.ctn; exact rfl; exact rfl; first | exact hcc')
        | (apply WD.ct; exact rfl; exact rfl; exact rfl; first | exact hcc')
        | (apply WO.clb; exact rfl; exact rfl; exact rfl; all_goals first | (intro h; exact absurd h (by decide)) | intro _)
        | (apply WO.cll; exact rfl; exact rfl; exact rfl)
        | (apply WO.pl; exact rfl; exact rfl)
        | (apply WO.pp; exact rfl; exact rfl)
      rw [e1, List.nil_append]
      refine loop174_2 C hb hn hc hcf l hlt ho n 20 T _ _ _ _ _ (by omega) (by omega) (by have := congrArg List.length e1; simp at this; rw [← this, g2.length_eq]; exact hlen) (hw'.app k1) e2 (fun l' a3 a4 a5 a6 lo wr q1 q2 q3 => ?_)
      repeat' first
        | apply W.seq
        | apply SQn
        | apply W.region
        | apply WO.nil
        | apply W.block
        | apply W.ret
        | apply W.exit
        | apply W.skip
        | apply SQr
        | apply SQe
        | apply BQn
        | apply BQr
        | apply BQe
        | (apply BQo; exact rfl)
        | apply LQe
        | apply LQr
        | (apply W.condT; exact rfl)
        | (apply W.condF; exact rfl)
        | (apply W.cond; exact rfl; all_goals intro _)
        | (apply WO.clb; exact rfl; exact rfl; exact rfl; all_goals first | (intro h; exact absurd h (by decide)) | intro _)
        | (apply WO.cll; exact rfl; exact rfl; exact rfl)
        | (apply WO.pl; exact rfl; exact rfl)
        | (apply WO.pp; exact rfl; exact rfl)
      exact ⟨.inl rfl, rfl, l', rfl, q1, q2, q3⟩)
  have hct := ct_of_run C.n174 hr
  obtain ⟨S', wr', hw', ⟨rfl⟩, hr'⟩ := run_put (M := M) (l := l) (e := 3) (f := fun x => [.int .i64 x]) (P := fun l' => l' = S)
    (ars := [.sl b 0 n 1 cap, g]) (by rw [C.ft]; exact ft99) (by simp) hb (fun _ => rfl) (by
      unfold b99
      simp only [List.map_cons, List.map_nil, List.getElem?_cons_zero, List.getElem?_cons_succ, Option.getD_some]
      repeat' first
        | apply W.seq
        | apply SQn
        | apply W.region
        | apply WO.nil
        | apply W.block
        | apply W.ret
        | apply W.exit
        | apply W.skip
        | apply SQr
        | apply SQe
        | apply BQn
        | apply BQr
        | apply BQe
        | (apply BQo; exact rfl)
        | apply LQe
        | apply LQr
        | (apply W.condT; exact rfl)
        | (apply W.condF; exact rfl)
        | (apply W.cond; exact rfl; all_goals intro _)
        | (apply WO.ct; exact rfl; exact rfl; first | exact hct)
        | (apply WO.ctn; exact rfl; exact rfl; first | exact hct)
        | (apply WD.ct; exact rfl; exact rfl; exact rfl; first | exact hct)
        | (apply WO.clb; exact rfl; exact rfl; exact rfl; all_goals first | (intro h; exact absurd h (by decide)) | intro _)
        | (apply WO.cll; exact rfl; exact rfl; exact rfl)
        | (apply WO.pl; exact rfl; exact rfl)
        | (apply WO.pp; exact rfl; exact rfl)
      exact ⟨.inl rfl, rfl, S, rfl, hw.app Only.nil, rfl⟩)
  exact ⟨S, wr', hw', ⟨g1, g2⟩, ct_of_run C.n99 hr'⟩
end Go.Ab.Ch1

/-
  Own work: mark.Shares: what it computes.
-/
namespace Go.Ab.Ch1
open Go.Ab.Sort
variable {M : Mach}

/-- The error of weights, as the program finds it. -/
def checkW (w : List Int) : Int := if w.length = 0 then 12 else if 256 < w.length then 5 else if (w.all fun x => decide (0 ≤ x ∧ x ≤ 999999999)) = false then 3 else if (w.all fun x => decide (x = 0)) = true then 6 else 0
theorem checkW_ok {w : List Int} (h : checkW w = 0) : (∀ x ∈ w, 0 ≤ x ∧ x ≤ 999999999) ∧ 0 < Sort.sum w ∧ w.length ≤ 256 := by
  unfold checkW at h
  repeat' split at h
  all_goals first | omega | skip
  rename_i h1 h2 h3 h4
  have h3' : ∀ x ∈ w, 0 ≤ x ∧ x ≤ 999999999 := by simpa using h3
  refine ⟨h3', ?_, by omega⟩
  have h0 := sum_nonneg fun x hx => (h3' x hx).1
  rcases Int.lt_or_eq_of_le h0 with h | h
  · exact h
  · exfalso
    have := sum_zero (fun x hx => (h3' x hx).1) h.symm
    exact h4 (by simpa using this)

/-- What the comparison of Shares reads. -/
structure SHp (hp : Heap) (total : Int) (w : List Int) (cap : Option Nat) : Prop where
  r0 : hp.at 0 = some (.cells [.int .i64 total] 3)
  r1 : hp.at 1 = some (.cells [.vs (ints w) w.length cap] 22)
  r2 : hp.at 3 = some (.cells [.int .i64 (Sort.sum w)] 3)
theorem rd {hp : Heap} {b : Nat} {c : List AV} {e : TypeId} (h : hp.at b = some (.cells c e)) : readAt hp (.ptr b 0) = some c := by
  simp [readAt, h]
def wOK (total : Int) (w : List Int) : Prop := 0 ≤ total ∧ total ≤ 999999999 ∧ (∀ x ∈ w, 0 ≤ x ∧ x ≤ 999999999) ∧ 0 < Sort.sum w ∧ w.length ≤ 256
theorem wOK.mul {total : Int} {w : List Int} (h : wOK total w) {x : Int} (hx : x ∈ w) : 0 ≤ total * x ∧ total * x ≤ 999999998000000001 := by
  obtain ⟨h1, h2, h3, _⟩ := h
  obtain ⟨g1, g2⟩ := h3 x hx
  refine ⟨Int.mul_nonneg h1 g1, ?_⟩
  have := Int.mul_le_mul h2 g2 g1 (by omega)
  omega
theorem wOK.sum {total : Int} {w : List Int} (h : wOK total w) : 0 < Sort.sum w ∧ Sort.sum w ≤ 256000000000 := by
  obtain ⟨_, _, h3, h4, h5⟩ := h
  have := sum_le fun x hx => (h3 x hx).2
  omega

theorem getD_nat {w : List Int} {i : Nat} (h : i < w.length) : w.getD ((i : Int)).toNat 0 = w[i]! := by
  rw [Int.toNat_natCast, getElem!_pos w i h]
  simp [List.getD_eq_getElem?_getD, h]

/-- The comparison of Shares. -/
theorem r100 (hft : M.FT = FT) (hn : ∀ ars h, M.ext 100 ars h = none) {hp : Heap} {total : Int} {w : List Int} {cap : Option Nat} (H : SHp hp total w cap) (hw : wOK total w) (x y : Int) (hx : 0 ≤ x ∧ x < w.length) (hy : 0 ≤ y ∧ y < w.length) :
    CT M (.fn (.func 100) [] [.ptr 0 0, .ptr 1 0, .ptr 3 0]) [.int .i64 x, .int .i64 y] hp ⟨.int .i64 (skey total w y - skey total w x), hp, []⟩ := by
  obtain ⟨i, rfl⟩ : ∃ i : Nat, x = i := ⟨x.toNat, by omega⟩
  obtain ⟨j, rfl⟩ : ∃ j : Nat, y = j := ⟨y.toNat, by omega⟩
  have hi : i < w.length := by omega
  have hj : j < w.length := by omega
  have e1 : skey total w i = total * w[i]! % Sort.sum w := by unfold skey; rw [getD_nat hi]
  have e2 : skey total w j = total * w[j]! % Sort.sum w := by unfold skey; rw [getD_nat hj]
  have b1 : ((i : Int)).toNat < w.length := by omega
  have b2 : ((j : Int)).toNat < w.length := by omega
  have t1 : w[((i : Int)).toNat]! = w[i]! := by rw [Int.toNat_natCast]
  have t2 : w[((j : Int)).toNat]! = w[j]! := by rw [Int.toNat_natCast]
  have m1 := hw.mul (getD_mem b1)
  have m2 := hw.mul (getD_mem b2)
  have s1 := hw.sum
  have q0 := rd H.r0
  have q1 := rd H.r1
  have q2 := rd H.r2
  refine CT.run (hn _ _) (run_same (by rw [hft]; exact ft100) (by simp) ?_)
  unfold b100
  simp only [List.nil_append, List.cons_append]
  simp only [List.map_cons, List.map_nil, List.getElem?_cons_zero, List.getElem?_cons_succ, List.getElem?_nil, Option.getD_some, Option.getD_none]
  repeat' first
    | apply W.seq
    | apply SQn
    | apply W.region
    | apply WO.nil
    | apply W.block
    | apply W.ret
    | apply W.exit
    | apply W.skip
    | apply SQr
    | apply SQe
    | apply BQn
    | apply BQr
    | apply BQe
    | (apply BQo; exact rfl)
    | apply LQe
    | apply LQr
    | (apply W.drawro; exact rfl)
    | apply W.draw
    | apply WD.nil
    | (apply WD.gT; exact rfl)
    | (apply WD.gF; exact rfl)
    | (apply WD.sT; exact rfl)
    | (apply WD.sF; exact rfl)
    | (apply WD.sU; exact rfl)
    | (apply WD.pure1; exact rfl)
    | (apply WD.load1; exact rfl; exact rfl; exact rfl)
    | (apply W.condT; exact rfl)
    | (apply W.condF; exact rfl)
    | (apply W.cond; exact rfl; all_goals intro _)
    | (apply WO.sub; exact rfl; exact rfl; omega)
    | (apply WO.mul; exact rfl; exact rfl; omega)
    | (apply WO.remp; exact rfl; exact rfl; omega; intro _ _)
    | (apply WO.remn; exact rfl; exact rfl; omega; intro _ _)
    | (apply WO.rem; exact rfl; exact rfl; omega)
    | (apply WO.ldx; exact rfl; (first | exact q0 | exact q1 | exact q2); exact rfl)
    | (apply WO.iav; exact rfl; exact rfl; omega)
    | (apply WO.ias; exact rfl; exact rfl; omega)
    | (apply WO.lda; exact rfl; exact fun _ => rfl; (first | omega | (simp only [List.length_set]; omega) | (simp; omega)); decide; exact rfl; case ia => infer_instance)
    | (apply WO.lsa; exact rfl; (first | exact rfl | assumption | exact at_new | (apply at_old; assumption) | (apply at_put; first | assumption | (simp only [put_length]; assumption))); exact fun _ => rfl; (first | omega | (simp only [List.length_set]; omega) | (simp; omega)); decide; exact rfl; case ia => infer_instance)
    | (apply WO.hlv; exact rfl; exact rfl; exact rfl)
    | (apply WO.hpv; exact rfl; exact rfl; exact rfl)
    | (apply WO.hnv; exact rfl; exact rfl; exact rfl)
    | (apply WO.pl; exact rfl; exact rfl)
    | (apply WO.pp; exact rfl; exact rfl)
  exact ⟨.inr rfl, rfl, rfl, rfl, _, rfl, by rw [e1, e2, ← t1, ← t2]; rfl⟩

theorem ints_snoc (l : List Int) (x : Int) : ints l ++ [.int .i64 x] = ints (l ++ [x]) := by simp [ints, arr]
theorem ints_len (l : List Int) : (ints l).length = l.length := by
  have := arr_length (f := fun x : Int => [AV.int .i64 x]) (esz := 1) (fun _ => rfl) l
  simpa [ints] using this
theorem take_snoc {w : List Int} {i : Nat} (h : i < w.length) : w.take (i + 1) = w.take i ++ [w[i]!] := by
  rw [List.take_add_one, List.getElem?_eq_getElem h, getElem!_pos w i h]; rfl
theorem base_length {total : Int} {w : List Int} : (base total w).length = w.length := by simp [base]
theorem base_get {total : Int} {w : List Int} {i : Nat} (h : i < w.length) : (base total w)[i]! = total * w[i]! / Sort.sum w := by
  rw [getElem!_pos w i h, getElem!_pos (base total w) i (by rw [base_length]; exact h)]
  simp [base]
theorem sum_take {l : List Int} (h : ∀ x ∈ l, 0 ≤ x) (i : Nat) : 0 ≤ Sort.sum (l.take i) ∧ Sort.sum (l.take i) ≤ Sort.sum l := by
  have h1 := sum_nonneg (l := l.take i) fun x hx => h x (List.mem_of_mem_take hx)
  have h2 := sum_nonneg (l := l.drop i) fun x hx => h x (List.mem_of_mem_drop hx)
  have h3 : Sort.sum l = Sort.sum (l.take i) + Sort.sum (l.drop i) := by rw [← sum_append, List.take_append_drop]
  omega
theorem base_nonneg {total : Int} {w : List Int} (h : wOK total w) : ∀ x ∈ base total w, 0 ≤ x := by
  intro x hx
  obtain ⟨y, hy, rfl⟩ := List.mem_map.1 hx
  exact Int.ediv_nonneg (h.mul hy).1 (Int.le_of_lt h.sum.1)
theorem base_sum {total : Int} {w : List Int} (h : wOK total w) (i : Nat) : 0 ≤ total - Sort.sum ((base total w).take i) ∧ total - Sort.sum ((base total w).take i) ≤ total := by
  have h1 := sum_take (base_nonneg h) i
  have h2 := (left_bounds (total := total) h.sum.1).1
  unfold remain at h2
  omega

theorem loop23_0 {total : Int} {w : List Int} {cap : Option Nat} {X : Option Blk} (hw : ∀ x ∈ w, 0 ≤ x ∧ x ≤ 999999999) (hn : w.length ≤ 256) (a0 a1 a3 a4 a5 a6 a9 a10 a11 a12 a13 a14 a18 a19 a20 a21 a22 a23 : AV) {Q : Ex → StW → Prop} : ∀ (r i : Nat), i + r = w.length → ∀ (a8 : AV) (lo : List (Nat × AV)) (wr : List Nat),
    (∀ a8 lo wr, Q (.exit 0) ⟨⟨[a0, a1, .ptr 0 0, a3, a4, a5, a6, .ptr 3 0, a8, a9, a10, a11, a12, a13, a14, .vs (ints w) w.length cap, .int .i64 w.length, .int .i64 w.length, a18, a19, a20, a21, a22, a23], lo, [some (.cells [.int .i64 total] 3), some (.cells [.vs (ints w) w.length cap] 22), X, some (.cells [.int .i64 (Sort.sum w)] 3)], []⟩, wr⟩) →
    W M (.loop b23_0) ⟨⟨[a0, a1, .ptr 0 0, a3, a4, a5, a6, .ptr 3 0, a8, a9, a10, a11, a12, a13, a14, .vs (ints w) w.length cap, .int .i64 w.length, .int .i64 i, a18, a19, a20, a21, a22, a23], lo, [some (.cells [.int .i64 total] 3), some (.cells [.vs (ints w) w.length cap] 22), X, some (.cells [.int .i64 (Sort.sum (w.take i))] 3)], []⟩, wr⟩ Q
  | 0, i, hi, a8, lo, wr, hQ => by
    obtain rfl : i = w.length := by omega
    rw [List.take_length]
    refine W.loop ?_
    unfold b23_0
    repeat' first
      | apply W.seq
      | apply SQn
      | apply W.region
      | apply WO.nil
      | apply W.block
      | apply W.ret
      | apply W.exit
      | apply W.skip
      | apply SQr
      | apply SQe
      | apply BQn
      | apply BQr
      | apply BQe
      | (apply BQo; exact rfl)
      | apply LQe
      | apply LQr
      | (apply W.condT; exact rfl)
      | (apply W.condF; exact rfl)
      | (apply W.cond; exact rfl; all_goals intro _)
      | (apply WO.lss; exact rfl; exact rfl; all_goals first | (intro _; exfalso; omega) | intro _)
      | (apply WO.add; exact rfl; exact rfl; omega)
      | (apply WO.iav; exact rfl; exact rfl; omega)
      | (apply WO.ias; exact rfl; exact rfl; omega)
      | (apply WO.lda; exact rfl; exact fun _ => rfl; (first | omega | (simp only [List.length_set]; omega) | (simp; omega)); decide; exact rfl; case ia => infer_instance)
      | (apply WO.lsa; exact rfl; (first | exact rfl | assumption | exact at_new | (apply at_old; assumption) | (apply at_put; first | assumption | (simp only [put_length]; assumption))); exact fun _ => rfl; (first | omega | (simp only [List.length_set]; omega) | (simp; omega)); decide; exact rfl; case ia => infer_instance)
      | (apply WO.sta; exact rfl; exact rfl; (first | exact rfl | assumption | exact at_new | (apply at_old; assumption) | (apply at_put; first | assumption | (simp only [put_length]; assumption))); exact fun _ => rfl; (first | omega | (simp only [List.length_set]; omega) | (simp; omega)); exact ⟨rfl, by decide, rfl⟩; exact rfl; case ia => infer_instance)
      | (apply WO.hlv; exact rfl; exact rfl; exact rfl)
      | (apply WO.hpv; exact rfl; exact rfl; exact rfl)
      | (apply WO.hnv; exact rfl; exact rfl; exact rfl)
      | (apply WO.pl; exact rfl; exact rfl)
      | (apply WO.pp; exact rfl; exact rfl)
    · exact hQ _ _ _
  | r + 1, i, hi, a8, lo, wr, hQ => by
    have hl : i < w.length := by omega
    have e1 : ((i : Int)).toNat = i := by omega
    have b1 : ((i : Int)).toNat < w.length := by omega
    have h1 := sum_take (fun x hx => (hw x hx).1) i
    have h2 := sum_le (l := w) fun x hx => (hw x hx).2
    have h3 := hw _ (getD_mem b1)
    refine W.loop ?_
    unfold b23_0
    repeat' first
      | apply W.seq
      | apply SQn
      | apply W.region
      | apply WO.nil
      | apply W.block
      | apply W.ret
      | apply W.exit
      | apply W.skip
      | apply SQr
      | apply SQe
      | apply BQn
      | apply BQr
      | apply BQe
      | (apply BQo; exact rfl)
      | apply LQe
      | apply LQr
      | (apply W.condT; exact rfl)
      | (apply W.condF; exact rfl)
      | (apply W.cond; exact rfl; all_goals intro _)
      | (apply WO.lss; exact rfl; exact rfl; all_goals first | (intro _; exfalso; omega) | intro _)
      | (apply WO.add; exact rfl; exact rfl; omega)
      | (apply WO.iav; exact rfl; exact rfl; omega)
      | (apply WO.ias; exact rfl; exact rfl; omega)
      | (apply WO.lda; exact rfl; exact fun _ => rfl; (first | omega | (simp only [List.length_set]; omega) | (simp; omega)); decide; exact rfl; case ia => infer_instance)
      | (apply WO.lsa; exact rfl; (first | exact rfl | assumption | exact at_new | (apply at_old; assumption) | (apply at_put; first | assumption | (simp only [put_length]; assumption))); exact fun _ => rfl; (first | omega | (simp only [List.length_set]; omega) | (simp; omega)); decide; exact rfl; case ia => infer_instance)
      | (apply WO.sta; exact rfl; exact rfl; (first | exact rfl | assumption | exact at_new | (apply at_old; assumption) | (apply at_put; first | assumption | (simp only [put_length]; assumption))); exact fun _ => rfl; (first | omega | (simp only [List.length_set]; omega) | (simp; omega)); exact ⟨rfl, by decide, rfl⟩; exact rfl; case ia => infer_instance)
      | (apply WO.hlv; exact rfl; exact rfl; exact rfl)
      | (apply WO.hpv; exact rfl; exact rfl; exact rfl)
      | (apply WO.hnv; exact rfl; exact rfl; exact rfl)
      | (apply WO.pl; exact rfl; exact rfl)
      | (apply WO.pp; exact rfl; exact rfl)
    refine LQn ?_
    have e2 : Sort.sum (w.take i) + w[((i : Int)).toNat]! = Sort.sum (w.take (i + 1)) := by
      rw [take_snoc hl, sum_append, e1]; simp [Sort.sum]
    have ih := loop23_0 (Q := Q) (total := total) (cap := cap) (X := X) hw hn a0 a1 a3 a4 a5 a6 a9 a10 a11 a12 a13 a14 a18 a19 a20 a21 a22 a23 r (i + 1) (by omega)
    rw [← e2] at ih
    exact ih _ _ _ hQ

set_option maxHeartbeats 2000000 in
theorem loop23_1 {total : Int} {w : List Int} {cap : Option Nat} (hw : wOK total w) (a0 a1 a3 a4 a5 a6 a8 a14 a15 a16 a17 a21 a22 a23 : AV) {Q : Ex → StW → Prop} : ∀ (r i : Nat), i + r = w.length → ∀ (hp : Heap) (bs bo : Nat) (cs co : Option Nat) (a12 a13 : AV) (lo : List (Nat × AV)) (wr : List Nat), SHp hp total w cap → hp.at bs = some (.cells (ints ((base total w).take i)) 3) → hp.at bo = some (.cells (ints (numsTo i)) 3) → bs ≠ bo → 3 < bs → 3 < bo → (cs = none ∨ cs = some 0 ∧ i = 0) → (co = none ∨ co = some 0 ∧ i = 0) →
    (∀ (hp : Heap) bs bo cs co a12 a13 lo wr, SHp hp total w cap → hp.at bs = some (.cells (ints (base total w)) 3) → hp.at bo = some (.cells (ints (numsTo w.length)) 3) → bs ≠ bo → 3 < bs → 3 < bo → (cs = none ∨ cs = some 0 ∧ w.length = 0) → (co = none ∨ co = some 0 ∧ w.length = 0) →
      Q (.exit 2) ⟨⟨[a0, a1, .ptr 0 0, a3, a4, a5, a6, .ptr 3 0, a8, .sl bs 0 w.length 1 cs, .sl bo 0 w.length 1 co, .int .i64 (remain total w), a12, a13, a14, a15, a16, a17, .vs (ints w) w.length cap, .int .i64 w.length, .int .i64 w.length, a21, a22, a23], lo, hp, []⟩, wr⟩) →
    W M (.loop b23_1) ⟨⟨[a0, a1, .ptr 0 0, a3, a4, a5, a6, .ptr 3 0, a8, .sl bs 0 i 1 cs, .sl bo 0 i 1 co, .int .i64 (total - Sort.sum ((base total w).take i)), a12, a13, a14, a15, a16, a17, .vs (ints w) w.length cap, .int .i64 w.length, .int .i64 i, a21, a22, a23], lo, hp, []⟩, wr⟩ Q
  | 0, i, hi, hp, bs, bo, cs, co, a12, a13, lo, wr, H, h1, h2, h3, h4, h5, h6, h7, hQ => by
    obtain rfl : i = w.length := by omega
    rw [List.take_of_length_le (by rw [base_length]; exact Nat.le_refl _)] at h1 ⊢
    refine W.loop ?_
    unfold b23_1
    repeat' first
      | apply W.seq
      | apply SQn
      | apply W.region
      | apply WO.nil
      | apply W.block
      | apply W.ret
      | apply W.exit
      | apply W.skip
      | apply SQr
      | apply SQe
      | apply BQn
      | apply BQr
      | apply BQe
      | (apply BQo; exact rfl)
      | apply LQe
      | apply LQr
      | (apply W.condT; exact rfl)
      | (apply W.condF; exact rfl)
      | (apply W.cond; exact rfl; all_goals intro _)
      | (apply WO.lss; exact rfl; exact rfl; all_goals first | (intro _; exfalso; omega) | intro _)
      | (apply WO.add; exact rfl; exact rfl; omega)
      | (apply WO.sub; exact rfl; exact rfl; omega)
      | (apply WO.mul; exact rfl; exact rfl; omega)
      | (apply WO.quop; exact rfl; exact rfl; omega; omega; intro _ _)
      | (apply WO.quon; exact rfl; exact rfl; omega; omega; intro _ _)
      | (apply WO.quo; exact rfl; exact rfl; omega; omega)
      | (apply WO.iav; exact rfl; exact rfl; omega)
      | (apply WO.ias; exact rfl; exact rfl; omega)
      | (apply WO.lda; exact rfl; exact fun _ => rfl; (first | omega | (simp only [List.length_set]; omega) | (simp; omega)); decide; exact rfl; case ia => infer_instance)
      | (apply WO.lsa; exact rfl; (first | exact rfl | assumption | exact at_new | (apply at_old; assumption) | (apply at_put; first | assumption | (simp only [put_length]; assumption))); exact fun _ => rfl; (first | omega | (simp only [List.length_set]; omega) | (simp; omega)); decide; exact rfl; case ia => infer_instance)
      | (apply WO.hlv; exact rfl; exact rfl; exact rfl)
      | (apply WO.hpv; exact rfl; exact rfl; exact rfl)
      | (apply WO.hnv; exact rfl; exact rfl; exact rfl)
      | (apply WO.pl; exact rfl; exact rfl)
      | (apply WO.pp; exact rfl; exact rfl)
    · exact hQ hp bs bo cs co _ _ _ _ H h1 h2 h3 h4 h5 h6 h7
  | r + 1, i, hi, hp, bs, bo, cs, co, a12, a13, lo, wr, H, h1, h2, h3, h4, h5, h6, h7, hQ => by
    have hl : i < w.length := by omega
    have e1 : ((i : Int)).toNat = i := by omega
    have b1 : ((i : Int)).toNat < w.length := by omega
    have m1 := hw.mul (getD_mem b1)
    have s1 := hw.sum
    have hn := hw.2.2.2.2
    have ht := hw.2.1
    have g1 := base_sum hw i
    have g2 := base_sum hw (i + 1)
    have eb : (base total w).take (i + 1) = (base total w).take i ++ [total * w[((i : Int)).toNat]! / Sort.sum w] := by
      rw [take_snoc (by rw [base_length]; exact hl), base_get hl, e1]
    have el : (ints ((base total w).take i)).length = i := by rw [ints_len, List.length_take, base_length]; omega
    have eo : (ints (numsTo i)).length = i := by rw [ints_len, numsTo_length]
    have hbo := at_lt h2
    have hbs := at_lt h1
    have q0 := rd H.r0
    have q2 := rd H.r2
    refine W.loop ?_
    unfold b23_1
    repeat' first
      | apply W.seq
      | apply SQn
      | apply W.region
      | apply WO.nil
      | apply W.block
      | apply W.ret
      | apply W.exit
      | apply W.skip
      | apply SQr
      | apply SQe
      | apply BQn
      | apply BQr
      | apply BQe
      | (apply BQo; exact rfl)
      | apply LQe
      | apply LQr
      | (apply W.condT; exact rfl)
      | (apply W.condF; exact rfl)
      | (apply W.cond; exact rfl; all_goals intro _)
      | (apply WO.lss; exact rfl; exact rfl; all_goals first | (intro _; exfalso; omega) | intro _)
      | (apply WO.add; exact rfl; exact rfl; omega)
      | (apply WO.sub; exact rfl; exact rfl; omega)
      | (apply WO.mul; exact rfl; exact rfl; omega)
      | (apply WO.quop; exact rfl; exact rfl; omega; omega; intro _ _)
      | (apply WO.quon; exact rfl; exact rfl; omega; omega; intro _ _)
      | (apply WO.quo; exact rfl; exact rfl; omega; omega)
      | (apply WO.ldx; exact rfl; (first | exact q0 | exact q2); exact rfl)
      | (apply WO.iav; exact rfl; exact rfl; omega)
      | (apply WO.ias; exact rfl; exact rfl; omega)
      | (apply WO.lda; exact rfl; exact fun _ => rfl; (first | omega | (simp only [List.length_set]; omega) | (simp; omega)); decide; exact rfl; case ia => infer_instance)
      | (apply WO.lsa; exact rfl; (first | exact rfl | assumption | exact at_new | (apply at_old; assumption) | (apply at_put; first | assumption | (simp only [put_length]; assumption))); exact fun _ => rfl; (first | omega | (simp only [List.length_set]; omega) | (simp; omega)); decide; exact rfl; case ia => infer_instance)
      | (apply WO.hlv; exact rfl; exact rfl; exact rfl)
      | (apply WO.hpv; exact rfl; exact rfl; exact rfl)
      | (apply WO.hnv; exact rfl; exact rfl; exact rfl)
      | (apply WO.pl; exact rfl; exact rfl)
      | (apply WO.pp; exact rfl; exact rfl)
    refine WO.app1 (hp := hp) rfl rfl rfl h1 el h6 (by omega) (fun H1 w1 n1 x1 k1 => ?_)
    rw [ints_snoc, ← eb] at x1
    repeat' first
      | apply W.seq
      | apply SQn
      | apply W.region
      | apply WO.nil
      | apply W.block
      | apply W.ret
      | apply W.exit
      | apply W.skip
      | apply SQr
      | apply SQe
      | apply BQn
      | apply BQr
      | apply BQe
      | (apply BQo; exact rfl)
      | apply LQe
      | apply LQr
      | (apply W.condT; exact rfl)
      | (apply W.condF; exact rfl)
      | (apply W.cond; exact rfl; all_goals intro _)
      | (apply WO.lss; exact rfl; exact rfl; all_goals first | (intro _; exfalso; omega) | intro _)
      | (apply WO.add; exact rfl; exact rfl; omega)
      | (apply WO.sub; exact rfl; exact rfl; omega)
      | (apply WO.mul; exact rfl; exact rfl; omega)
      | (apply WO.quop; exact rfl; exact rfl; omega; omega; intro _ _)
      | (apply WO.quon; exact rfl; exact rfl; omega; omega; intro _ _)
      | (apply WO.quo; exact rfl; exact rfl; omega; omega)
      | (apply WO.iav; exact rfl; exact rfl; omega)
      | (apply WO.ias; exact rfl; exact rfl; omega)
      | (apply WO.lda; exact rfl; exact fun _ => rfl; (first | omega | (simp only [List.length_set]; omega) | (simp; omega)); decide; exact rfl; case ia => infer_instance)
      | (apply WO.lsa; exact rfl; (first | exact rfl | assumption | exact at_new | (apply at_old; assumption) | (apply at_put; first | assumption | (simp only [put_length]; assumption))); exact fun _ => rfl; (first | omega | (simp only [List.length_set]; omega) | (simp; omega)); decide; exact rfl; case ia => infer_instance)
      | (apply WO.hlv; exact rfl; exact rfl; exact rfl)
      | (apply WO.hpv; exact rfl; exact rfl; exact rfl)
      | (apply WO.hnv; exact rfl; exact rfl; exact rfl)
      | (apply WO.pl; exact rfl; exact rfl)
      | (apply WO.pp; exact rfl; exact rfl)
    refine WO.app1 (hp := H1) rfl rfl rfl (k1 _ _ h3.symm h2) eo h7 (by omega) (fun H2 w2 n2 x2 k2 => ?_)
    rw [ints_snoc, ← numsTo_succ] at x2
    have x3 := k2 _ _ (by omega) x1
    have l3 : ((i : Int)).toNat < ((base total w).take (i + 1)).length := by rw [List.length_take, base_length]; omega
    have v3 : ((base total w).take (i + 1))[((i : Int)).toNat]! = total * w[((i : Int)).toNat]! / Sort.sum w := by
      rw [eb]; exact get_at (by rw [List.length_take, base_length]; omega)
    have g3 : Sort.sum ((base total w).take (i + 1)) = Sort.sum ((base total w).take i) + total * w[((i : Int)).toNat]! / Sort.sum w := by
      rw [eb, sum_append]; simp [Sort.sum]
    rw [← v3] at g3
    repeat' first
      | apply W.seq
      | apply SQn
      | apply W.region
      | apply WO.nil
      | apply W.block
      | apply W.ret
      | apply W.exit
      | apply W.skip
      | apply SQr
      | apply SQe
      | apply BQn
      | apply BQr
      | apply BQe
      | (apply BQo; exact rfl)
      | apply LQe
      | apply LQr
      | (apply W.condT; exact rfl)
      | (apply W.condF; exact rfl)
      | (apply W.cond; exact rfl; all_goals intro _)
      | (apply WO.lss; exact rfl; exact rfl; all_goals first | (intro _; exfalso; omega) | intro _)
      | (apply WO.add; exact rfl; exact rfl; omega)
      | (apply WO.sub; exact rfl; exact rfl; omega)
      | (apply WO.mul; exact rfl; exact rfl; omega)
      | (apply WO.quop; exact rfl; exact rfl; omega; omega; intro _ _)
      | (apply WO.quon; exact rfl; exact rfl; omega; omega; intro _ _)
      | (apply WO.quo; exact rfl; exact rfl; omega; omega)
      | (apply WO.iav; exact rfl; exact rfl; omega)
      | (apply WO.ias; exact rfl; exact rfl; omega)
      | (apply WO.lda; exact rfl; exact fun _ => rfl; (first | omega | (simp only [List.length_set]; omega) | (simp; omega)); decide; exact rfl; case ia => infer_instance)
      | (apply WO.lsa; exact rfl; (first | exact rfl | assumption | exact at_new | (apply at_old; assumption) | (apply at_put; first | assumption | (simp only [put_length]; assumption))); exact fun _ => rfl; (first | omega | (simp only [List.length_set]; omega) | (simp; omega)); decide; exact rfl; case ia => infer_instance)
      | (apply WO.hlv; exact rfl; exact rfl; exact rfl)
      | (apply WO.hpv; exact rfl; exact rfl; exact rfl)
      | (apply WO.hnv; exact rfl; exact rfl; exact rfl)
      | (apply WO.pl; exact rfl; exact rfl)
      | (apply WO.pp; exact rfl; exact rfl)
    refine LQn ?_
    rw [show total - Sort.sum ((base total w).take i) - ((base total w).take (i + 1))[((i : Int)).toNat]! = total - Sort.sum ((base total w).take (i + 1)) by omega]
    exact loop23_1 hw a0 a1 a3 a4 a5 a6 a8 a14 a15 a16 a17 a21 a22 a23 r (i + 1) (by omega) H2 (hp.length + 1) (H1.length + 1) none none _ _ _ _ ⟨k2 _ _ (by omega) (k1 _ _ (by omega) H.r0), k2 _ _ (by omega) (k1 _ _ (by omega) H.r1), k2 _ _ (by omega) (k1 _ _ (by omega) H.r2)⟩ x3 x2 (by omega) (by omega) (by omega) (.inl rfl) (.inl rfl) hQ

theorem start23_1 {total : Int} {w : List Int} {cap : Option Nat} (hw : wOK total w) (hpos : 0 < w.length) (a0 a1 a3 a4 a5 a6 a8 a14 a15 a16 a17 a21 a22 a23 : AV) {hp : Heap} {bs bo : Nat} (H : SHp hp total w cap) (h1 : hp.at bs = some (.cells [] 3)) (h2 : hp.at bo = some (.cells [] 3)) (h3 : bs ≠ bo) (h4 : 3 < bs) (h5 : 3 < bo) (a12 a13 : AV) (lo : List (Nat × AV)) (wr : List Nat) {Q : Ex → StW → Prop}
    (hQ : ∀ (hp : Heap) bs bo a12 a13 lo wr, SHp hp total w cap → hp.at bs = some (.cells (ints (base total w)) 3) → hp.at bo = some (.cells (ints (numsTo w.length)) 3) → bs ≠ bo → 3 < bs → 3 < bo →
      Q (.exit 2) ⟨⟨[a0, a1, .ptr 0 0, a3, a4, a5, a6, .ptr 3 0, a8, .sl bs 0 w.length 1 none, .sl bo 0 w.length 1 none, .int .i64 (remain total w), a12, a13, a14, a15, a16, a17, .vs (ints w) w.length cap, .int .i64 w.length, .int .i64 w.length, a21, a22, a23], lo, hp, []⟩, wr⟩) :
    W M (.loop b23_1) ⟨⟨[a0, a1, .ptr 0 0, a3, a4, a5, a6, .ptr 3 0, a8, .sl bs 0 0 1 (some 0), .sl bo 0 0 1 (some 0), .int .i64 total, a12, a13, a14, a15, a16, a17, .vs (ints w) w.length cap, .int .i64 w.length, .int .i64 0, a21, a22, a23], lo, hp, []⟩, wr⟩ Q := by
  have h := loop23_1 (M := M) (Q := Q) hw a0 a1 a3 a4 a5 a6 a8 a14 a15 a16 a17 a21 a22 a23 w.length 0 (by omega) hp bs bo (some 0) (some 0) a12 a13 lo wr H (by rw [List.take_zero]; exact h1) h2 h3 h4 h5 (.inr ⟨rfl, rfl⟩) (.inr ⟨rfl, rfl⟩) (fun hp bs bo cs co a12 a13 lo wr k1 k2 k3 k4 k5 k6 k7 k8 => by
    obtain rfl : cs = none := k7.resolve_right fun h => by omega
    obtain rfl : co = none := k8.resolve_right fun h => by omega
    exact hQ hp bs bo a12 a13 lo wr k1 k2 k3 k4 k5 k6)
  rw [List.take_zero, show total - Sort.sum ([] : List Int) = total by simp [Sort.sum]] at h
  exact h

theorem outT_bound {total : Int} {w : List Int} (hw : wOK total w) {t : Nat} : ∀ x ∈ outT total w t, 0 ≤ x ∧ x ≤ 1000000000000000000 := by
  intro x hx
  obtain ⟨i, hi, rfl⟩ := List.mem_map.1 hx
  obtain ⟨h0, h1⟩ := numsTo_mem.1 hi
  obtain ⟨j, rfl⟩ : ∃ j : Nat, i = j := ⟨i.toNat, by omega⟩
  have hj : j < w.length := by omega
  have m := hw.mul (getD_mem hj)
  have s := hw.sum
  rw [getD_nat hj]
  have d0 := Int.ediv_nonneg m.1 (Int.le_of_lt s.1)
  have d1 := Int.ediv_le_self (Sort.sum w) m.1
  constructor <;> split <;> omega

set_option maxHeartbeats 2000000 in
theorem loop23_2 {total : Int} {w : List Int} (hw : wOK total w) (bs bo t : Nat) (hne : bs ≠ bo) (ht : t ≤ w.length) (S : List Int) (hS : Sd (skey total w) S) (hP : S.Perm (numsTo w.length)) (cs co : Option Nat) (a0 a1 a2 a3 a4 a5 a6 a7 a8 a10 a11 a12 a13 a15 a16 a17 a18 a19 a20 : AV) {Q : Ex → StW → Prop} : ∀ (r k : Nat), k + r = t → ∀ (hp : Heap) (a14 : AV) (lo : List (Nat × AV)) (wr : List Nat), hp.at bs = some (.cells (ints (outT total w k)) 3) → hp.at bo = some (.cells (ints S) 3) →
    (∀ (hp : Heap) a14 lo wr, hp.at bs = some (.cells (ints (outT total w t)) 3) → Q (.exit 4) ⟨⟨[a0, a1, a2, a3, a4, a5, a6, a7, a8, .sl bs 0 w.length 1 cs, a10, a11, a12, a13, a14, a15, a16, a17, a18, a19, a20, .sl bo 0 t 1 co, .int .i64 t, .int .i64 t], lo, hp, []⟩, wr⟩) →
    W M (.loop b23_2) ⟨⟨[a0, a1, a2, a3, a4, a5, a6, a7, a8, .sl bs 0 w.length 1 cs, a10, a11, a12, a13, a14, a15, a16, a17, a18, a19, a20, .sl bo 0 t 1 co, .int .i64 t, .int .i64 k], lo, hp, []⟩, wr⟩ Q
  | 0, k, hk, hp, a14, lo, wr, h1, h2, hQ => by
    obtain rfl : k = t := by omega
    refine W.loop ?_
    unfold b23_2
    repeat' first
      | apply W.seq
      | apply SQn
      | apply W.region
      | apply WO.nil
      | apply W.block
      | apply W.ret
      | apply W.exit
      | apply W.skip
      | apply SQr
      | apply SQe
      | apply BQn
      | apply BQr
      | apply BQe
      | (apply BQo; exact rfl)
      | apply LQe
      | apply LQr
      | (apply W.condT; exact rfl)
      | (apply W.condF; exact rfl)
      | (apply W.cond; exact rfl; all_goals intro _)
      | (apply WO.lss; exact rfl; exact rfl; all_goals first | (intro _; exfalso; omega) | intro _)
      | (apply WO.add; exact rfl; exact rfl; omega)
      | (apply WO.iav; exact rfl; exact rfl; omega)
      | (apply WO.ias; exact rfl; exact rfl; omega)
      | (apply WO.lda; exact rfl; exact fun _ => rfl; (first | omega | (simp only [List.length_set]; omega) | (simp; omega)); decide; exact rfl; case ia => infer_instance)
      | (apply WO.lsa; exact rfl; (first | exact rfl | assumption | exact at_new | (apply at_old; assumption) | (apply at_put; first | assumption | (simp only [put_length]; assumption))); exact fun _ => rfl; (first | omega | (simp only [List.length_set]; omega) | (simp; omega)); decide; exact rfl; case ia => infer_instance)
      | (apply WO.sta; exact rfl; exact rfl; (first | exact rfl | assumption | exact at_new | (apply at_old; assumption) | (apply at_put; first | assumption | (simp only [put_length]; assumption))); exact fun _ => rfl; (first | omega | (simp only [List.length_set]; omega) | (simp; omega)); exact ⟨rfl, by decide, rfl⟩; exact rfl; case ia => infer_instance)
      | (apply WO.hlv; exact rfl; exact rfl; exact rfl)
      | (apply WO.hpv; exact rfl; exact rfl; exact rfl)
      | (apply WO.hnv; exact rfl; exact rfl; exact rfl)
      | (apply WO.pl; exact rfl; exact rfl)
      | (apply WO.pp; exact rfl; exact rfl)
    · exact hQ hp _ _ _ h1
  | r + 1, k, hk, hp, a14, lo, wr, h1, h2, hQ => by
    have hSl : S.length = w.length := by rw [hP.length_eq, numsTo_length]
    have hn := hw.2.2.2.2
    have ek : ((k : Int)).toNat = k := by omega
    have bk : ((k : Int)).toNat < S.length := by omega
    have gk : S[k]? = some S[((k : Int)).toNat]! := by
      rw [ek, getElem!_pos S k (by omega)]; exact List.getElem?_eq_getElem (by omega)
    obtain ⟨rk, i0, i1⟩ := order_rank hS hP gk
    obtain ⟨i, hi⟩ : ∃ i : Nat, S[((k : Int)).toNat]! = i := ⟨(S[((k : Int)).toNat]!).toNat, by omega⟩
    rw [hi] at rk i1
    have hil : i < (outT total w k).length := by rw [outT_length]; omega
    have bi : (S[((k : Int)).toNat]!).toNat < (outT total w k).length := by rw [hi]; omega
    have ei : (S[((k : Int)).toNat]!).toNat = i := by rw [hi]; omega
    have bd := outT_bound hw _ (getD_mem bi)
    have bsl := at_lt h1
    refine W.loop ?_
    unfold b23_2
    repeat' first
      | apply W.seq
      | apply SQn
      | apply W.region
      | apply WO.nil
      | apply W.block
      | apply W.ret
      | apply W.exit
      | apply W.skip
      | apply SQr
      | apply SQe
      | apply BQn
      | apply BQr
      | apply BQe
      | (apply BQo; exact rfl)
      | apply LQe
      | apply LQr
      | (apply W.condT; exact rfl)
      | (apply W.condF; exact rfl)
      | (apply W.cond; exact rfl; all_goals intro _)
      | (apply WO.lss; exact rfl; exact rfl; all_goals first | (intro _; exfalso; omega) | intro _)
      | (apply WO.add; exact rfl; exact rfl; omega)
      | (apply WO.iav; exact rfl; exact rfl; omega)
      | (apply WO.ias; exact rfl; exact rfl; omega)
      | (apply WO.lda; exact rfl; exact fun _ => rfl; (first | omega | (simp only [List.length_set]; omega) | (simp; omega)); decide; exact rfl; case ia => infer_instance)
      | (apply WO.lsa; exact rfl; (first | exact rfl | assumption | exact at_new | (apply at_old; assumption) | (apply at_put; first | assumption | (simp only [put_length]; assumption))); exact fun _ => rfl; (first | omega | (simp only [List.length_set]; omega) | (simp; omega)); decide; exact rfl; case ia => infer_instance)
      | (apply WO.sta; exact rfl; exact rfl; (first | exact rfl | assumption | exact at_new | (apply at_old; assumption) | (apply at_put; first | assumption | (simp only [put_length]; assumption))); exact fun _ => rfl; (first | omega | (simp only [List.length_set]; omega) | (simp; omega)); exact ⟨rfl, by decide, rfl⟩; exact rfl; case ia => infer_instance)
      | (apply WO.hlv; exact rfl; exact rfl; exact rfl)
      | (apply WO.hpv; exact rfl; exact rfl; exact rfl)
      | (apply WO.hnv; exact rfl; exact rfl; exact rfl)
      | (apply WO.pl; exact rfl; exact rfl)
      | (apply WO.pp; exact rfl; exact rfl)
    refine LQn ?_
    have en : (outT total w k).set (S[((k : Int)).toNat]!).toNat ((outT total w k)[(S[((k : Int)).toNat]!).toNat]! + 1) = outT total w (k + 1) := by
      rw [ei]
      refine outT_next (by omega) ?_ rk
      rw [getElem!_pos _ i hil]; exact List.getElem?_eq_getElem hil
    rw [en]
    exact loop23_2 hw bs bo t hne ht S hS hP cs co a0 a1 a2 a3 a4 a5 a6 a7 a8 a10 a11 a12 a13 a15 a16 a17 a18 a19 a20 r (k + 1) (by omega) _ _ _ _ (at_put bsl) (at_else hne.symm h2) hQ

/-- What Shares calls, beside the sort. -/
structure Calls23 (M : Mach) : Prop extends CS M where
  n100 : ∀ ars h, M.ext 100 ars h = none
  c95 : ∀ x lo hi h, M.ext 95 [.int .i64 x, .int .i64 lo, .int .i64 hi] h = some ⟨.bool (decide (x < lo) || decide (hi < x)), h, []⟩
  c97 : ∀ b e h, M.ext 97 [.bool b, .int .i64 e] h = some ⟨.int .i64 (if b then e else 0), h, []⟩
  c96 : ∀ x l h, intsAt h x = some l → l.length < 4611686018427387904 → M.ext 96 [x] h = some ⟨.int .i64 (firstNZ l), h, []⟩
  c98 : ∀ (w : List Int) cap h, w.length < 4611686018427387904 → M.ext 98 [.vs (ints w) w.length cap] h = some ⟨.int .i64 (checkW w), h, []⟩

/-- The error of shares. -/
def sharesE (total : Int) (w : List Int) : Int := if total < 0 ∨ 999999999 < total then 3 else checkW w
theorem sharesE_ok {total : Int} {w : List Int} (h : sharesE total w = 0) : wOK total w := by
  unfold sharesE at h
  split at h
  · omega
  · obtain ⟨h1, h2, h3⟩ := checkW_ok h
    exact ⟨by omega, by omega, h1, h2, h3⟩

theorem w23e {M : Mach} (C : Calls23 M) (total : Int) (w : List Int) (cap : Option Nat) (hl : w.length < 4611686018427387904) (he : sharesE total w ≠ 0) :
    Run M 23 [.int .i64 total, .vs (ints w) w.length cap] [] ⟨.tup [.nilsl, .int .i64 (sharesE total w)], [], []⟩ := by
  have q95 : ∀ h, M.ext 95 [.int .i64 total, .int .i64 0, .int .i64 999999999] h = some ⟨.bool (decide (total < 0 ∨ 999999999 < total)), h, []⟩ := fun h => by rw [C.c95]; simp
  have q97 : ∀ h, M.ext 97 [.bool (decide (total < 0 ∨ 999999999 < total)), .int .i64 3] h = some ⟨.int .i64 (if total < 0 ∨ 999999999 < total then 3 else 0), h, []⟩ := fun h => by rw [C.c97]; simp
  have q98 := fun h => C.c98 w cap h hl
  have q96 : ∀ h x, intsAt h x = some [if total < 0 ∨ 999999999 < total then 3 else 0, checkW w] → M.ext 96 [x] h = some ⟨.int .i64 (sharesE total w), h, []⟩ := fun h x hx => by
    rw [C.c96 x _ h hx (by simp)]
    unfold sharesE
    split <;> simp [firstNZ]
    omega
  generalize sharesE total w = e at *
  refine run_of_W (by rw [C.ft]; exact ft23) (by simp) ?_
  unfold b23
  simp only [List.map_cons, List.map_nil, List.getElem?_cons_zero, List.getElem?_cons_succ, List.getElem?_nil, Option.getD_some, Option.getD_none]
  repeat' first
    | apply W.seq
    | apply SQn
    | apply W.region
    | apply WO.nil
    | apply W.block
    | apply W.ret
    | apply W.exit
    | apply W.skip
    | apply SQr
    | apply SQe
    | apply BQn
    | apply BQr
    | apply BQe
    | (apply BQo; exact rfl)
    | apply LQe
    | apply LQr
    | (apply W.drawro; exact rfl)
    | apply W.draw
    | apply WD.nil
    | (apply WD.gT; exact rfl)
    | (apply WD.gF; exact rfl)
    | (apply WD.sT; exact rfl)
    | (apply WD.sF; exact rfl)
    | (apply WD.sU; exact rfl)
    | (apply WD.pure1; exact rfl)
    | (apply WD.load1; exact rfl; exact rfl; exact rfl)
    | (apply WD.store1; exact rfl; exact rfl; exact rfl)
    | (apply WD.new1; exact rfl)
    | (apply WD.clb; exact rfl; exact rfl; exact rfl; exact rfl; all_goals first | (intro h; exact absurd h (by decide)) | intro _)
    | (apply WD.cl0; exact rfl; exact rfl; exact rfl; exact rfl)
    | (apply WD.cl1; exact rfl; exact rfl; exact rfl; exact rfl)
    | (apply W.condT; exact rfl)
    | (apply W.condF; exact rfl)
    | (apply W.cond; exact rfl; all_goals intro _)
    | (apply WO.neq; exact rfl; exact rfl; all_goals first | (intro _; exfalso; omega) | intro _)
    | (apply WO.cll; exact rfl; exact rfl; first | exact q95 _ | exact q97 _ | exact q98 _ | exact q96 _ _ rfl)
    | (apply WD.cl0; exact rfl; exact rfl; exact rfl; first | exact q95 _ | exact q97 _ | exact q98 _ | exact q96 _ _ rfl)
    | (apply WO.sneq; exact rfl; exact rfl; all_goals first | (intro h; exact absurd h (by decide)) | (intro h; exact absurd rfl h) | (intro h; contradiction) | intro _)
    | (apply WO.clb; exact rfl; exact rfl; exact rfl; all_goals first | (intro h; exact absurd h (by decide)) | intro _)
    | (apply WO.cll; exact rfl; exact rfl; exact rfl)
    | (apply WO.hlv; exact rfl; exact rfl; exact rfl)
    | (apply WO.hpv; exact rfl; exact rfl; exact rfl)
    | (apply WO.hnv; exact rfl; exact rfl; exact rfl)
    | (apply WO.pl; exact rfl; exact rfl)
    | (apply WO.pp; exact rfl; exact rfl)
  exact ⟨.inr rfl, rfl, _, rfl, rfl, rfl⟩

set_option maxHeartbeats 4000000 in
theorem w23 (C : Calls23 M) (total : Int) (w : List Int) (cap : Option Nat) (he : sharesE total w = 0) : ∃ bs hh, Run M 23 [.int .i64 total, .vs (ints w) w.length cap] [] ⟨.tup [.sl bs 0 w.length 1 none, .int .i64 0], hh, []⟩ ∧ hh.at bs = some (.cells (ints (share total w)) 3) := by
  have hw := sharesE_ok he
  have ht : ¬ (total < 0 ∨ 999999999 < total) := by unfold sharesE at he; split at he <;> omega
  have hc0 : checkW w = 0 := by unfold sharesE at he; rwa [if_neg ht] at he
  have hn := hw.2.2.2.2
  have hpos : 0 < w.length := by
    have := hw.2.2.2.1
    cases w with
    | nil => simp [Sort.sum] at this
    | cons x w => simp
  have q95 : ∀ h, M.ext 95 [.int .i64 total, .int .i64 0, .int .i64 999999999] h = some ⟨.bool false, h, []⟩ := fun h => by rw [C.c95]; simp; omega
  have q97 : ∀ h, M.ext 97 [.bool false, .int .i64 3] h = some ⟨.int .i64 0, h, []⟩ := fun h => C.c97 false 3 h
  have q98 : ∀ h, M.ext 98 [.vs (ints w) w.length cap] h = some ⟨.int .i64 0, h, []⟩ := fun h => by rw [C.c98 w cap h (by omega), hc0]
  have q96 : ∀ h x, intsAt h x = some [0, 0] → M.ext 96 [x] h = some ⟨.int .i64 0, h, []⟩ := fun h x hx => by rw [C.c96 x _ h hx (by simp)]; rfl
  obtain ⟨l0, l1⟩ := left_bounds (total := total) hw.sum.1
  obtain ⟨⟨n, e, s, g1, bs, g2, g3, g4, g5, g6⟩⟩ : W M b23 ⟨⟨[0, 1, 2, 3, 4, 5, 6, 7, 9, 10, 11, 12, 13, 14, 16, 27, 28, 29, 40, 41, 42, 71, 72, 73].map (fun t => ([AV.int .i64 total, .vs (ints w) w.length cap][t]?).getD undefA), [], [], []⟩, []⟩ fun e s => ∃ bs, (e = .normal ∨ e = .ret) ∧ s.s.dfs = [] ∧ s.s.pe[4]? = some (.sl bs 0 w.length 1 none) ∧ s.s.pe[5]? = some (.int .i64 0) ∧ s.s.hp.at bs = some (.cells (ints (share total w)) 3) := by
    unfold b23
    simp only [List.map_cons, List.map_nil, List.getElem?_cons_zero, List.getElem?_cons_succ, List.getElem?_nil, Option.getD_some, Option.getD_none]
    repeat' first
      | apply W.seq
      | apply SQn
      | apply W.region
      | apply WO.nil
      | apply W.block
      | apply W.ret
      | apply W.exit
      | apply W.skip
      | apply SQr
      | apply SQe
      | apply BQn
      | apply BQr
      | apply BQe
      | (apply BQo; exact rfl)
      | apply LQe
      | apply LQr
      | (apply W.drawro; exact rfl)
      | apply W.draw
      | apply WD.nil
      | (apply WD.gT; exact rfl)
      | (apply WD.gF; exact rfl)
      | (apply WD.sT; exact rfl)
      | (apply WD.sF; exact rfl)
      | (apply WD.sU; exact rfl)
      | (apply WD.pure1; exact rfl)
      | (apply WD.load1; exact rfl; exact rfl; exact rfl)
      | (apply WD.store1; exact rfl; exact rfl; exact rfl)
      | (apply WD.new1; exact rfl)
      | (apply WD.clb; exact rfl; exact rfl; exact rfl; exact rfl; all_goals first | (intro h; exact absurd h (by decide)) | intro _)
      | (apply WD.cl0; exact rfl; exact rfl; exact rfl; exact rfl)
      | (apply WD.cl1; exact rfl; exact rfl; exact rfl; exact rfl)
      | (apply W.condT; exact rfl)
      | (apply W.condF; exact rfl)
      | (apply W.cond; exact rfl; all_goals intro _)
      | (apply WO.lss; exact rfl; exact rfl; all_goals first | (intro _; exfalso; omega) | intro _)
      | (apply WO.neq; exact rfl; exact rfl; all_goals first | (intro _; exfalso; omega) | intro _)
      | (apply WO.add; exact rfl; exact rfl; omega)
      | (apply WO.cll; exact rfl; exact rfl; first | exact q95 _ | exact q97 _ | exact q98 _ | exact q96 _ _ rfl)
      | (apply WD.cl0; exact rfl; exact rfl; exact rfl; first | exact q95 _ | exact q97 _ | exact q98 _ | exact q96 _ _ rfl)
      | (apply WO.iav; exact rfl; exact rfl; omega)
      | (apply WO.ias; exact rfl; exact rfl; omega)
      | (apply WO.lda; exact rfl; exact fun _ => rfl; (first | omega | (simp only [List.length_set]; omega) | (simp; omega)); decide; exact rfl; case ia => infer_instance)
      | (apply WO.lsa; exact rfl; (first | exact rfl | assumption | exact at_new | (apply at_old; assumption) | (apply at_put; first | assumption | (simp only [put_length]; assumption))); exact fun _ => rfl; (first | omega | (simp only [List.length_set]; omega) | (simp; omega)); decide; exact rfl; case ia => infer_instance)
      | (apply WO.sta; exact rfl; exact rfl; (first | exact rfl | assumption | exact at_new | (apply at_old; assumption) | (apply at_put; first | assumption | (simp only [put_length]; assumption))); exact fun _ => rfl; (first | omega | (simp only [List.length_set]; omega) | (simp; omega)); exact ⟨rfl, by decide, rfl⟩; exact rfl; case ia => infer_instance)
      | (apply WO.sneq; exact rfl; exact rfl; all_goals first | (intro h; exact absurd h (by decide)) | (intro h; exact absurd rfl h) | (intro h; contradiction) | intro _)
      | (apply WO.clb; exact rfl; exact rfl; exact rfl; all_goals first | (intro h; exact absurd h (by decide)) | intro _)
      | (apply WO.cll; exact rfl; exact rfl; exact rfl)
      | (apply WO.hlv; exact rfl; exact rfl; exact rfl)
      | (apply WO.hpv; exact rfl; exact rfl; exact rfl)
      | (apply WO.hnv; exact rfl; exact rfl; exact rfl)
      | (apply WO.pl; exact rfl; exact rfl)
      | (apply WO.pp; exact rfl; exact rfl)
    refine loop23_0 hw.2.2.1 hn _ _ _ _ _ _ _ _ _ _ _ _ _ _ _ _ _ _ w.length 0 (by omega) _ _ _ (fun a8 lo wr => ?_)
    repeat' first
      | apply W.seq
      | apply SQn
      | apply W.region
      | apply WO.nil
      | apply W.block
      | apply W.ret
      | apply W.exit
      | apply W.skip
      | apply SQr
      | apply SQe
      | apply BQn
      | apply BQr
      | apply BQe
      | (apply BQo; exact rfl)
      | apply LQe
      | apply LQr
      | (apply W.drawro; exact rfl)
      | apply W.draw
      | apply WD.nil
      | (apply WD.gT; exact rfl)
      | (apply WD.gF; exact rfl)
      | (apply WD.sT; exact rfl)
      | (apply WD.sF; exact rfl)
      | (apply WD.sU; exact rfl)
      | (apply WD.pure1; exact rfl)
      | (apply WD.load1; exact rfl; exact rfl; exact rfl)
      | (apply WD.store1; exact rfl; exact rfl; exact rfl)
      | (apply WD.new1; exact rfl)
      | (apply WD.clb; exact rfl; exact rfl; exact rfl; exact rfl; all_goals first | (intro h; exact absurd h (by decide)) | intro _)
      | (apply WD.cl0; exact rfl; exact rfl; exact rfl; exact rfl)
      | (apply WD.cl1; exact rfl; exact rfl; exact rfl; exact rfl)
      | (apply W.condT; exact rfl)
      | (apply W.condF; exact rfl)
      | (apply W.cond; exact rfl; all_goals intro _)
      | (apply WO.lss; exact rfl; exact rfl; all_goals first | (intro _; exfalso; omega) | intro _)
      | (apply WO.neq; exact rfl; exact rfl; all_goals first | (intro _; exfalso; omega) | intro _)
      | (apply WO.add; exact rfl; exact rfl; omega)
      | (apply WO.iav; exact rfl; exact rfl; omega)
      | (apply WO.ias; exact rfl; exact rfl; omega)
      | (apply WO.lda; exact rfl; exact fun _ => rfl; (first | omega | (simp only [List.length_set]; omega) | (simp; omega)); decide; exact rfl; case ia => infer_instance)
      | (apply WO.lsa; exact rfl; (first | exact rfl | assumption | exact at_new | (apply at_old; assumption) | (apply at_put; first | assumption | (simp only [put_length]; assumption))); exact fun _ => rfl; (first | omega | (simp only [List.length_set]; omega) | (simp; omega)); decide; exact rfl; case ia => infer_instance)
      | (apply WO.sta; exact rfl; exact rfl; (first | exact rfl | assumption | exact at_new | (apply at_old; assumption) | (apply at_put; first | assumption | (simp only [put_length]; assumption))); exact fun _ => rfl; (first | omega | (simp only [List.length_set]; omega) | (simp; omega)); exact ⟨rfl, by decide, rfl⟩; exact rfl; case ia => infer_instance)
      | (apply WO.sneq; exact rfl; exact rfl; all_goals first | (intro h; exact absurd h (by decide)) | (intro h; exact absurd rfl h) | (intro h; contradiction) | intro _)
      | (apply WO.clb; exact rfl; exact rfl; exact rfl; all_goals first | (intro h; exact absurd h (by decide)) | intro _)
      | (apply WO.cll; exact rfl; exact rfl; exact rfl)
      | (apply WO.hlv; exact rfl; exact rfl; exact rfl)
      | (apply WO.hpv; exact rfl; exact rfl; exact rfl)
      | (apply WO.hnv; exact rfl; exact rfl; exact rfl)
      | (apply WO.pl; exact rfl; exact rfl)
      | (apply WO.pp; exact rfl; exact rfl)
    refine start23_1 hw hpos _ _ _ _ _ _ _ _ _ _ _ _ _ _ ⟨rfl, rfl, rfl⟩ (bs := 4) (bo := 5) rfl rfl (by omega) (by omega) (by omega) _ _ _ _ (fun hp bs bo a12 a13 lo wr k1 k2 k3 k4 k5 k6 => ?_)
    have hne : ∀ i : Nat, i < 4 → i ≠ bo := fun i hi => by omega
    have H' : ∀ o, SHp (hp.put bo o) total w cap := fun o => ⟨at_else (hne 0 (by omega)) k1.r0, at_else (hne 1 (by omega)) k1.r1, at_else (hne 3 (by omega)) k1.r2⟩
    obtain ⟨S, wr', hw', ⟨s1, s2⟩, hct⟩ := r99 (M := M) (h := hp) (b := bo) (n := w.length) (cap := none) (g := .fn (.func 100) [] [.ptr 0 0, .ptr 1 0, .ptr 3 0]) (key := skey total w) (ok := fun x => 0 ≤ x ∧ x < w.length) (cf := fun x y => skey total w y - skey total w x) C.toCS (at_lt k3) (by omega)
      (fun x y l hx hy => r100 C.ft C.n100 (H' _) hw x y hx hy) (fun x y _ _ => by omega) (l := numsTo w.length) numsTo_length numsTo_lt (fun y hy => numsTo_mem.1 hy)
    rw [put_self k3] at hct
    have f1 : (hp.put bo (some (.cells (ints S) 3))).at bs = some (.cells (ints (outT total w 0)) 3) := by rw [outT_zero]; exact at_else k4 k2
    have f2 : (hp.put bo (some (.cells (ints S) 3))).at bo = some (.cells (ints S) 3) := at_put (at_lt k3)
    by_cases h0 : remain total w = 0
    · rw [h0]
      repeat' first
        | apply W.seq
        | apply SQn
        | apply W.region
        | apply WO.nil
        | apply W.block
        | apply W.ret
        | apply W.exit
        | apply W.skip
        | apply SQr
        | apply SQe
        | apply BQn
        | apply BQr
        | apply BQe
        | (apply BQo; exact rfl)
        | apply LQe
        | apply LQr
        | (apply W.drawro; exact rfl)
        | apply W.draw
        | apply WD.nil
        | (apply WD.gT; exact rfl)
        | (apply WD.gF; exact rfl)
        | (apply WD.sT; exact rfl)
        | (apply WD.sF; exact rfl)
        | (apply WD.sU; exact rfl)
        | (apply WD.pure1; exact rfl)
        | (apply WD.load1; exact rfl; exact rfl; exact rfl)
        | (apply WD.store1; exact rfl; exact rfl; exact rfl)
        | (apply WD.new1; exact rfl)
        | (apply WD.clb; exact rfl; exact rfl; exact rfl; exact rfl; all_goals first | (intro h; exact absurd h (by decide)) | intro _)
        | (apply WD.cl0; exact rfl; exact rfl; exact rfl; exact rfl)
        | (apply WD.cl1; exact rfl; exact rfl; exact rfl; exact rfl)
        | (apply W.condT; exact rfl)
        | (apply W.condF; exact rfl)
        | (apply W.cond; exact rfl; all_goals intro _)
        | (apply WO.lss; exact rfl; exact rfl; all_goals first | (intro _; exfalso; omega) | intro _)
        | (apply WO.neq; exact rfl; exact rfl; all_goals first | (intro _; exfalso; omega) | intro _)
        | (apply WO.add; exact rfl; exact rfl; omega)
        | (apply WO.ct; exact rfl; exact rfl; first | exact hct)
        | (apply WO.ctn; exact rfl; exact rfl; first | exact hct)
        | (apply WD.ct; exact rfl; exact rfl; exact rfl; first | exact hct)
        | (apply WO.iav; exact rfl; exact rfl; omega)
        | (apply WO.ias; exact rfl; exact rfl; omega)
        | (apply WO.lda; exact rfl; exact fun _ => rfl; (first | omega | (simp only [List.length_set]; omega) | (simp; omega)); decide; exact rfl; case ia => infer_instance)
        | (apply WO.lsa; exact rfl; (first | exact rfl | assumption | exact at_new | (apply at_old; assumption) | (apply at_put; first | assumption | (simp only [put_length]; assumption))); exact fun _ => rfl; (first | omega | (simp only [List.length_set]; omega) | (simp; omega)); decide; exact rfl; case ia => infer_instance)
        | (apply WO.sta; exact rfl; exact rfl; (first | exact rfl | assumption | exact at_new | (apply at_old; assumption) | (apply at_put; first | assumption | (simp only [put_length]; assumption))); exact fun _ => rfl; (first | omega | (simp only [List.length_set]; omega) | (simp; omega)); exact ⟨rfl, by decide, rfl⟩; exact rfl; case ia => infer_instance)
        | (apply WO.sneq; exact rfl; exact rfl; all_goals first | (intro h; exact absurd h (by decide)) | (intro h; exact absurd rfl h) | (intro h; contradiction) | intro _)
        | (apply WO.clb; exact rfl; exact rfl; exact rfl; all_goals first | (intro h; exact absurd h (by decide)) | intro _)
        | (apply WO.cll; exact rfl; exact rfl; exact rfl)
        | (apply WO.hlv; exact rfl; exact rfl; exact rfl)
        | (apply WO.hpv; exact rfl; exact rfl; exact rfl)
        | (apply WO.hnv; exact rfl; exact rfl; exact rfl)
        | (apply WO.pl; exact rfl; exact rfl)
        | (apply WO.pp; exact rfl; exact rfl)
      refine W.loop ?_
      unfold b23_2
      repeat' first
        | apply W.seq
        | apply SQn
        | apply W.region
        | apply WO.nil
        | apply W.block
        | apply W.ret
        | apply W.exit
        | apply W.skip
        | apply SQr
        | apply SQe
        | apply BQn
        | apply BQr
        | apply BQe
        | (apply BQo; exact rfl)
        | apply LQe
        | apply LQr
        | (apply W.drawro; exact rfl)
        | apply W.draw
        | apply WD.nil
        | (apply WD.gT; exact rfl)
        | (apply WD.gF; exact rfl)
        | (apply WD.sT; exact rfl)
        | (apply WD.sF; exact rfl)
        | (apply WD.sU; exact rfl)
        | (apply WD.pure1; exact rfl)
        | (apply WD.load1; exact rfl; exact rfl; exact rfl)
        | (apply WD.store1; exact rfl; exact rfl; exact rfl)
        | (apply WD.new1; exact rfl)
        | (apply WD.clb; exact rfl; exact rfl; exact rfl; exact rfl; all_goals first | (intro h; exact absurd h (by decide)) | intro _)
        | (apply WD.cl0; exact rfl; exact rfl; exact rfl; exact rfl)
        | (apply WD.cl1; exact rfl; exact rfl; exact rfl; exact rfl)
        | (apply W.condT; exact rfl)
        | (apply W.condF; exact rfl)
        | (apply W.cond; exact rfl; all_goals intro _)
        | (apply WO.lss; exact rfl; exact rfl; all_goals first | (intro _; exfalso; omega) | intro _)
        | (apply WO.neq; exact rfl; exact rfl; all_goals first | (intro _; exfalso; omega) | intro _)
        | (apply WO.add; exact rfl; exact rfl; omega)
        | (apply WO.iav; exact rfl; exact rfl; omega)
        | (apply WO.ias; exact rfl; exact rfl; omega)
        | (apply WO.lda; exact rfl; exact fun _ => rfl; (first | omega | (simp only [List.length_set]; omega) | (simp; omega)); decide; exact rfl; case ia => infer_instance)
        | (apply WO.lsa; exact rfl; (first | exact rfl | assumption | exact at_new | (apply at_old; assumption) | (apply at_put; first | assumption | (simp only [put_length]; assumption))); exact fun _ => rfl; (first | omega | (simp only [List.length_set]; omega) | (simp; omega)); decide; exact rfl; case ia => infer_instance)
        | (apply WO.sta; exact rfl; exact rfl; (first | exact rfl | assumption | exact at_new | (apply at_old; assumption) | (apply at_put; first | assumption | (simp only [put_length]; assumption))); exact fun _ => rfl; (first | omega | (simp only [List.length_set]; omega) | (simp; omega)); exact ⟨rfl, by decide, rfl⟩; exact rfl; case ia => infer_instance)
        | (apply WO.sneq; exact rfl; exact rfl; all_goals first | (intro h; exact absurd h (by decide)) | (intro h; exact absurd rfl h) | (intro h; contradiction) | intro _)
        | (apply WO.clb; exact rfl; exact rfl; exact rfl; all_goals first | (intro h; exact absurd h (by decide)) | intro _)
        | (apply WO.cll; exact rfl; exact rfl; exact rfl)
        | (apply WO.hlv; exact rfl; exact rfl; exact rfl)
        | (apply WO.hpv; exact rfl; exact rfl; exact rfl)
        | (apply WO.hnv; exact rfl; exact rfl; exact rfl)
        | (apply WO.pl; exact rfl; exact rfl)
        | (apply WO.pp; exact rfl; exact rfl)
      refine ⟨bs, .inr rfl, rfl, rfl, rfl, ?_⟩
      rw [← share_out l0, h0]
      exact f1
    · repeat' first
        | apply W.seq
        | apply SQn
        | apply W.region
        | apply WO.nil
        | apply W.block
        | apply W.ret
        | apply W.exit
        | apply W.skip
        | apply SQr
        | apply SQe
        | apply BQn
        | apply BQr
        | apply BQe
        | (apply BQo; exact rfl)
        | apply LQe
        | apply LQr
        | (apply W.drawro; exact rfl)
        | apply W.draw
        | apply WD.nil
        | (apply WD.gT; exact rfl)
        | (apply WD.gF; exact rfl)
        | (apply WD.sT; exact rfl)
        | (apply WD.sF; exact rfl)
        | (apply WD.sU; exact rfl)
        | (apply WD.pure1; exact rfl)
        | (apply WD.load1; exact rfl; exact rfl; exact rfl)
        | (apply WD.store1; exact rfl; exact rfl; exact rfl)
        | (apply WD.new1; exact rfl)
        | (apply WD.clb; exact rfl; exact rfl; exact rfl; exact rfl; all_goals first | (intro h; exact absurd h (by decide)) | intro _)
        | (apply WD.cl0; exact rfl; exact rfl; exact rfl; exact rfl)
        | (apply WD.cl1; exact rfl; exact rfl; exact rfl; exact rfl)
        | (apply W.condT; exact rfl)
        | (apply W.condF; exact rfl)
        | (apply W.cond; exact rfl; all_goals intro _)
        | (apply WO.lss; exact rfl; exact rfl; all_goals first | (intro _; exfalso; omega) | intro _)
        | (apply WO.neq; exact rfl; exact rfl; all_goals first | (intro _; exfalso; omega) | intro _)
        | (apply WO.add; exact rfl; exact rfl; omega)
        | (apply WO.ct; exact rfl; exact rfl; first | exact hct)
        | (apply WO.ctn; exact rfl; exact rfl; first | exact hct)
        | (apply WD.ct; exact rfl; exact rfl; exact rfl; first | exact hct)
        | (apply WO.iav; exact rfl; exact rfl; omega)
        | (apply WO.ias; exact rfl; exact rfl; omega)
        | (apply WO.lda; exact rfl; exact fun _ => rfl; (first | omega | (simp only [List.length_set]; omega) | (simp; omega)); decide; exact rfl; case ia => infer_instance)
        | (apply WO.lsa; exact rfl; (first | exact rfl | assumption | exact at_new | (apply at_old; assumption) | (apply at_put; first | assumption | (simp only [put_length]; assumption))); exact fun _ => rfl; (first | omega | (simp only [List.length_set]; omega) | (simp; omega)); decide; exact rfl; case ia => infer_instance)
        | (apply WO.sta; exact rfl; exact rfl; (first | exact rfl | assumption | exact at_new | (apply at_old; assumption) | (apply at_put; first | assumption | (simp only [put_length]; assumption))); exact fun _ => rfl; (first | omega | (simp only [List.length_set]; omega) | (simp; omega)); exact ⟨rfl, by decide, rfl⟩; exact rfl; case ia => infer_instance)
        | (apply WO.sneq; exact rfl; exact rfl; all_goals first | (intro h; exact absurd h (by decide)) | (intro h; exact absurd rfl h) | (intro h; contradiction) | intro _)
        | (apply WO.clb; exact rfl; exact rfl; exact rfl; all_goals first | (intro h; exact absurd h (by decide)) | intro _)
        | (apply WO.cll; exact rfl; exact rfl; exact rfl)
        | (apply WO.hlv; exact rfl; exact rfl; exact rfl)
        | (apply WO.hpv; exact rfl; exact rfl; exact rfl)
        | (apply WO.hnv; exact rfl; exact rfl; exact rfl)
        | (apply WO.pl; exact rfl; exact rfl)
        | (apply WO.pp; exact rfl; exact rfl)
      apply WO.slp; exact rfl; exact rfl; omega
      repeat' first
        | apply W.seq
        | apply SQn
        | apply W.region
        | apply WO.nil
        | apply W.block
        | apply W.ret
        | apply W.exit
        | apply W.skip
        | apply SQr
        | apply SQe
        | apply BQn
        | apply BQr
        | apply BQe
        | (apply BQo; exact rfl)
        | apply LQe
        | apply LQr
        | (apply W.drawro; exact rfl)
        | apply W.draw
        | apply WD.nil
        | (apply WD.gT; exact rfl)
        | (apply WD.gF; exact rfl)
        | (apply WD.sT; exact rfl)
        | (apply WD.sF; exact rfl)
        | (apply WD.sU; exact rfl)
        | (apply WD.pure1; exact rfl)
        | (apply WD.load1; exact rfl; exact rfl; exact rfl)
        | (apply WD.store1; exact rfl; exact rfl; exact rfl)
        | (apply WD.new1; exact rfl)
        | (apply WD.clb; exact rfl; exact rfl; exact rfl; exact rfl; all_goals first | (intro h; exact absurd h (by decide)) | intro _)
        | (apply WD.cl0; exact rfl; exact rfl; exact rfl; exact rfl)
        | (apply WD.cl1; exact rfl; exact rfl; exact rfl; exact rfl)
        | (apply W.condT; exact rfl)
        | (apply W.condF; exact rfl)
        | (apply W.cond; exact rfl; all_goals intro _)
        | (apply WO.lss; exact rfl; exact rfl; all_goals first | (intro _; exfalso; omega) | intro _)
        | (apply WO.neq; exact rfl; exact rfl; all_goals first | (intro _; exfalso; omega) | intro _)
        | (apply WO.add; exact rfl; exact rfl; omega)
        | (apply WO.iav; exact rfl; exact rfl; omega)
        | (apply WO.ias; exact rfl; exact rfl; omega)
        | (apply WO.lda; exact rfl; exact fun _ => rfl; (first | omega | (simp only [List.length_set]; omega) | (simp; omega)); decide; exact rfl; case ia => infer_instance)
        | (apply WO.lsa; exact rfl; (first | exact rfl | assumption | exact at_new | (apply at_old; assumption) | (apply at_put; first | assumption | (simp only [put_length]; assumption))); exact fun _ => rfl; (first | omega | (simp only [List.length_set]; omega) | (simp; omega)); decide; exact rfl; case ia => infer_instance)
        | (apply WO.sta; exact rfl; exact rfl; (first | exact rfl | assumption | exact at_new | (apply at_old; assumption) | (apply at_put; first | assumption | (simp only [put_length]; assumption))); exact fun _ => rfl; (first | omega | (simp only [List.length_set]; omega) | (simp; omega)); exact ⟨rfl, by decide, rfl⟩; exact rfl; case ia => infer_instance)
        | (apply WO.sneq; exact rfl; exact rfl; all_goals first | (intro h; exact absurd h (by decide)) | (intro h; exact absurd rfl h) | (intro h; contradiction) | intro _)
        | (apply WO.clb; exact rfl; exact rfl; exact rfl; all_goals first | (intro h; exact absurd h (by decide)) | intro _)
        | (apply WO.cll; exact rfl; exact rfl; exact rfl)
        | (apply WO.hlv; exact rfl; exact rfl; exact rfl)
        | (apply WO.hpv; exact rfl; exact rfl; exact rfl)
        | (apply WO.hnv; exact rfl; exact rfl; exact rfl)
        | (apply WO.pl; exact rfl; exact rfl)
        | (apply WO.pp; exact rfl; exact rfl)
      have et : ((remain total w).toNat : Int) = remain total w := by omega
      refine loop23_2 hw bs bo (remain total w).toNat k4 (by omega) S s1 s2 none none _ _ _ _ _ _ _ _ _ _ _ _ _ _ _ _ _ _ _ (remain total w).toNat 0 (by omega) _ _ _ _ f1 f2 (fun hp a14 lo wr q1 => ?_)
      repeat' first
        | apply W.seq
        | apply SQn
        | apply W.region
        | apply WO.nil
        | apply W.block
        | apply W.ret
        | apply W.exit
        | apply W.skip
        | apply SQr
        | apply SQe
        | apply BQn
        | apply BQr
        | apply BQe
        | (apply BQo; exact rfl)
        | apply LQe
        | apply LQr
        | (apply W.drawro; exact rfl)
        | apply W.draw
        | apply WD.nil
        | (apply WD.gT; exact rfl)
        | (apply WD.gF; exact rfl)
        | (apply WD.sT; exact rfl)
        | (apply WD.sF; exact rfl)
        | (apply WD.sU; exact rfl)
        | (apply WD.pure1; exact rfl)
        | (apply WD.load1; exact rfl; exact rfl; exact rfl)
        | (apply WD.store1; exact rfl; exact rfl; exact rfl)
        | (apply WD.new1; exact rfl)
        | (apply WD.clb; exact rfl; exact rfl; exact rfl; exact rfl; all_goals first | (intro h; exact absurd h (by decide)) | intro _)
        | (apply WD.cl0; exact rfl; exact rfl; exact rfl; exact rfl)
        | (apply WD.cl1; exact rfl; exact rfl; exact rfl; exact rfl)
        | (apply W.condT; exact rfl)
        | (apply W.condF; exact rfl)
        | (apply W.cond; exact rfl; all_goals intro _)
        | (apply WO.lss; exact rfl; exact rfl; all_goals first | (intro _; exfalso; omega) | intro _)
        | (apply WO.neq; exact rfl; exact rfl; all_goals first | (intro _; exfalso; omega) | intro _)
        | (apply WO.add; exact rfl; exact rfl; omega)
        | (apply WO.iav; exact rfl; exact rfl; omega)
        | (apply WO.ias; exact rfl; exact rfl; omega)
        | (apply WO.lda; exact rfl; exact fun _ => rfl; (first | omega | (simp only [List.length_set]; omega) | (simp; omega)); decide; exact rfl; case ia => infer_instance)
        | (apply WO.lsa; exact rfl; (first | exact rfl | assumption | exact at_new | (apply at_old; assumption) | (apply at_put; first | assumption | (simp only [put_length]; assumption))); exact fun _ => rfl; (first | omega | (simp only [List.length_set]; omega) | (simp; omega)); decide; exact rfl; case ia => infer_instance)
        | (apply WO.sta; exact rfl; exact rfl; (first | exact rfl | assumption | exact at_new | (apply at_old; assumption) | (apply at_put; first | assumption | (simp only [put_length]; assumption))); exact fun _ => rfl; (first | omega | (simp only [List.length_set]; omega) | (simp; omega)); exact ⟨rfl, by decide, rfl⟩; exact rfl; case ia => infer_instance)
        | (apply WO.sneq; exact rfl; exact rfl; all_goals first | (intro h; exact absurd h (by decide)) | (intro h; exact absurd rfl h) | (intro h; contradiction) | intro _)
        | (apply WO.clb; exact rfl; exact rfl; exact rfl; all_goals first | (intro h; exact absurd h (by decide)) | intro _)
        | (apply WO.cll; exact rfl; exact rfl; exact rfl)
        | (apply WO.hlv; exact rfl; exact rfl; exact rfl)
        | (apply WO.hpv; exact rfl; exact rfl; exact rfl)
        | (apply WO.hnv; exact rfl; exact rfl; exact rfl)
        | (apply WO.pl; exact rfl; exact rfl)
        | (apply WO.pp; exact rfl; exact rfl)
      exact ⟨bs, .inr rfl, rfl, rfl, rfl, by rw [← share_out l0]; exact q1⟩
  exact ⟨bs, s.s.hp, run_of_W (by rw [C.ft]; exact ft23) (by simp) ⟨⟨n, e, s, g1, g2, g3, [.sl bs 0 w.length 1 none, .int .i64 0], by simp only [resultsA, St.opd, g4, g5], rfl, rfl⟩⟩, g6⟩
end Go.Ab.Ch1
