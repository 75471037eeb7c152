/-
  Own work: the partitions of marks.
-/
import Derived.Test.YtcjphdmkgmkabaaGreatDoorLib4
import Derived.Test.YtcjphdmkgmkabaaGreatDoorLib2
import Derived.Deep.Slices
import Derived.Deep.Strs
namespace Go.Ab.Ch1
open Go.Sort (swp scanUp scanDown partLoop partEqLoop)
variable {M : Mach} {h : Heap} {b n : Nat} {cap : Option Nat} {g : AV} {c : Mk → Mk → Int}

/-- A run that rearranges the marks in their block and hands something back. -/
theorem run_mhE {l : List Mk} {f N : Nat} {pers : List Nat} {res : List IRes} {body : ICode} {ars : List AV} {P : AV → List Mk → Prop} (hft : M.FT f = some ⟨N, pers, res, body⟩) (hN : ars.length ≤ N) (hx : ∀ ars h, M.ext f ars h = none) (hb : b < h.length) (hv : ∀ v l, P v l → v.top = 0)
    (hW : W M body ⟨⟨pers.map (fun t => (ars[t]?).getD undefA), [], mh h b l, []⟩, []⟩ fun e s => (e = .normal ∨ e = .ret) ∧ s.s.dfs = [] ∧ ∃ l' J, s.s.hp = mh h b l' ++ J ∧ OnlyN b h.length s.wr ∧ ∃ vs, resultsA s.s res = some vs ∧ P (tupA vs) l') : ∃ v l' wr, P v l' ∧ Only b wr ∧ CT M (fnM f) ars (mh h b l) ⟨v, mh h b l', wr⟩ := by
  obtain ⟨⟨k, e, s, h1, h2, h3, l', J, h4, h5, vs, h6, h7⟩⟩ := hW
  obtain ⟨wr, hw, hr⟩ := ret_own (c0 := arr cm l) (e := 49) hb h4 h5 (topL_arr (fun _ => rfl) l') (hv _ _ h7)
  refine ⟨_, l', wr, h7, hw, CT.run (hx _ _) ?_⟩
  have := run_of_WH (r := ⟨tupA vs, mh h b l', wr⟩) hft hN ⟨⟨k, e, s, h1, h2, h3, vs, h6, hr⟩⟩
  simpa using this

set_option maxHeartbeats 1000000 in
theorem loop238_4 (hb : b < h.length) (hn : n < 2305843009213693952) (hc : CmpM M g c) (a : Nat) (ha : a < n) (a2 a3 a5 a6 : AV) {Q : Ex → StW → Prop} : ∀ (r i j : Nat) (d : Array Mk) (lo : List (Nat × AV)) (wr : List Nat), j + 1 - i ≤ r → 1 ≤ i → i ≤ n → j < n → d.size = n → Only b wr →
    (∀ x lo wr, Only b wr → (partLoop (ltOf c) a i j d).1 < n → (partLoop (ltOf c) a i j d).2.size = n → Q (.exit 4) ⟨⟨[.sl b 0 n 3 cap, .int .i64 a, a2, a3, g, a5, a6, x, .int .i64 (partLoop (ltOf c) a i j d).1], lo, mh h b (partLoop (ltOf c) a i j d).2.toList, []⟩, wr⟩) →
    W M (.loop b238_4) ⟨⟨[.sl b 0 n 3 cap, .int .i64 a, a2, a3, g, a5, a6, .int .i64 i, .int .i64 j], lo, mh h b d.toList, []⟩, wr⟩ Q := by
  intro r
  induction r with
  | zero =>
    intro i j d lo wr hr h1 hi hj hd hw hQ
    have g1 := Go.Sort.scanUp_ge (fun x => ltOf c x d[a]!) d j i
    have g2 := Go.Sort.scanDown_le (fun x => !ltOf c x d[a]!) d (scanUp (fun x => ltOf c x d[a]!) d j i) j
    have e : partLoop (ltOf c) a i j d = (scanDown (fun x => !ltOf c x d[a]!) d (scanUp (fun x => ltOf c x d[a]!) d j i) j, d) := by rw [Go.Sort.partLoop_eq, if_pos (by omega)]
    rw [e] at hQ
    refine W.loop ?_
    unfold b238_4
    repeat' first | apply W.seq | apply SQn | apply W.region | apply WO.nil | apply W.block | apply W.ret | apply W.exit | apply W.skip | apply SQr | apply SQe | apply BQn | apply BQr | apply BQe | (apply BQo; exact rfl) | apply LQe | apply LQr | (apply W.drawro; exact rfl) | apply W.draw | apply WD.nil | (apply WD.gT; exact rfl) | (apply WD.gF; exact rfl) | (apply WD.sT; exact rfl) | (apply WD.sF; exact rfl) | (apply WD.sU; exact rfl) | (apply WD.pure1; exact rfl) | (apply WD.load1; exact rfl; exact rfl; exact rfl) | (apply WD.store1; exact rfl; exact rfl; exact rfl) | (apply W.condT; exact rfl) | (apply W.condF; exact rfl) | (apply W.cond; exact rfl; all_goals intro _) | (apply WO.gtr; exact rfl; exact rfl; all_goals first | (intro _; exfalso; omega) | intro _) | (apply WO.add; exact rfl; exact rfl; omega) | (apply WO.sub; exact rfl; exact rfl; omega) | (apply WO.iav; exact rfl; exact rfl; omega) | (apply WO.ias; exact rfl; exact rfl; omega) | (apply WO.lda; exact rfl; exact fun _ => rfl; (first | omega | (simp only [List.length_set]; omega) | (simp; omega)); decide; exact rfl; case ia => infer_instance) | (apply WO.lsa; exact rfl; (first | exact rfl | assumption | exact at_new | (apply at_old; assumption) | (apply at_put; first | assumption | (simp only [put_length]; assumption))); exact fun _ => rfl; (first | omega | (simp only [List.length_set]; omega) | (simp; omega)); decide; exact rfl; case ia => infer_instance) | (apply WO.sta; exact rfl; exact rfl; (first | exact rfl | assumption | exact at_new | (apply at_old; assumption) | (apply at_put; first | assumption | (simp only [put_length]; assumption))); exact fun _ => rfl; (first | omega | (simp only [List.length_set]; omega) | (simp; omega)); exact ⟨rfl, by decide, rfl⟩; exact rfl; case ia => infer_instance) | (apply WO.hlv; exact rfl; exact rfl; exact rfl) | (apply WO.hpv; exact rfl; exact rfl; exact rfl) | (apply WO.hnv; exact rfl; exact rfl; exact rfl) | (apply WO.pl; exact rfl; exact rfl) | (apply WO.pp; exact rfl; exact rfl)
    refine loop238_2 hb hn hc d hd a ha j hj _ _ _ _ _ _ i _ (Nat.le_refl _) hi (fun lo => ?_)
    repeat' first | apply W.seq | apply SQn | apply W.region | apply WO.nil | apply W.block | apply W.ret | apply W.exit | apply W.skip | apply SQr | apply SQe | apply BQn | apply BQr | apply BQe | (apply BQo; exact rfl) | apply LQe | apply LQr | (apply W.drawro; exact rfl) | apply W.draw | apply WD.nil | (apply WD.gT; exact rfl) | (apply WD.gF; exact rfl) | (apply WD.sT; exact rfl) | (apply WD.sF; exact rfl) | (apply WD.sU; exact rfl) | (apply WD.pure1; exact rfl) | (apply WD.load1; exact rfl; exact rfl; exact rfl) | (apply WD.store1; exact rfl; exact rfl; exact rfl) | (apply W.condT; exact rfl) | (apply W.condF; exact rfl) | (apply W.cond; exact rfl; all_goals intro _) | (apply WO.gtr; exact rfl; exact rfl; all_goals first | (intro _; exfalso; omega) | intro _) | (apply WO.add; exact rfl; exact rfl; omega) | (apply WO.sub; exact rfl; exact rfl; omega) | (apply WO.iav; exact rfl; exact rfl; omega) | (apply WO.ias; exact rfl; exact rfl; omega) | (apply WO.lda; exact rfl; exact fun _ => rfl; (first | omega | (simp only [List.length_set]; omega) | (simp; omega)); decide; exact rfl; case ia => infer_instance) | (apply WO.lsa; exact rfl; (first | exact rfl | assumption | exact at_new | (apply at_old; assumption) | (apply at_put; first | assumption | (simp only [put_length]; assumption))); exact fun _ => rfl; (first | omega | (simp only [List.length_set]; omega) | (simp; omega)); decide; exact rfl; case ia => infer_instance) | (apply WO.sta; exact rfl; exact rfl; (first | exact rfl | assumption | exact at_new | (apply at_old; assumption) | (apply at_put; first | assumption | (simp only [put_length]; assumption))); exact fun _ => rfl; (first | omega | (simp only [List.length_set]; omega) | (simp; omega)); exact ⟨rfl, by decide, rfl⟩; exact rfl; case ia => infer_instance) | (apply WO.hlv; exact rfl; exact rfl; exact rfl) | (apply WO.hpv; exact rfl; exact rfl; exact rfl) | (apply WO.hnv; exact rfl; exact rfl; exact rfl) | (apply WO.pl; exact rfl; exact rfl) | (apply WO.pp; exact rfl; exact rfl)
    refine loop238_3 hb hn hc d hd a ha _ (by omega) _ _ _ _ _ j _ hj (fun lo => ?_)
    repeat' first | apply W.seq | apply SQn | apply W.region | apply WO.nil | apply W.block | apply W.ret | apply W.exit | apply W.skip | apply SQr | apply SQe | apply BQn | apply BQr | apply BQe | (apply BQo; exact rfl) | apply LQe | apply LQr | (apply W.drawro; exact rfl) | apply W.draw | apply WD.nil | (apply WD.gT; exact rfl) | (apply WD.gF; exact rfl) | (apply WD.sT; exact rfl) | (apply WD.sF; exact rfl) | (apply WD.sU; exact rfl) | (apply WD.pure1; exact rfl) | (apply WD.load1; exact rfl; exact rfl; exact rfl) | (apply WD.store1; exact rfl; exact rfl; exact rfl) | (apply W.condT; exact rfl) | (apply W.condF; exact rfl) | (apply W.cond; exact rfl; all_goals intro _) | (apply WO.gtr; exact rfl; exact rfl; all_goals first | (intro _; exfalso; omega) | intro _) | (apply WO.add; exact rfl; exact rfl; omega) | (apply WO.sub; exact rfl; exact rfl; omega) | (apply WO.iav; exact rfl; exact rfl; omega) | (apply WO.ias; exact rfl; exact rfl; omega) | (apply WO.lda; exact rfl; exact fun _ => rfl; (first | omega | (simp only [List.length_set]; omega) | (simp; omega)); decide; exact rfl; case ia => infer_instance) | (apply WO.lsa; exact rfl; (first | exact rfl | assumption | exact at_new | (apply at_old; assumption) | (apply at_put; first | assumption | (simp only [put_length]; assumption))); exact fun _ => rfl; (first | omega | (simp only [List.length_set]; omega) | (simp; omega)); decide; exact rfl; case ia => infer_instance) | (apply WO.sta; exact rfl; exact rfl; (first | exact rfl | assumption | exact at_new | (apply at_old; assumption) | (apply at_put; first | assumption | (simp only [put_length]; assumption))); exact fun _ => rfl; (first | omega | (simp only [List.length_set]; omega) | (simp; omega)); exact ⟨rfl, by decide, rfl⟩; exact rfl; case ia => infer_instance) | (apply WO.hlv; exact rfl; exact rfl; exact rfl) | (apply WO.hpv; exact rfl; exact rfl; exact rfl) | (apply WO.hnv; exact rfl; exact rfl; exact rfl) | (apply WO.pl; exact rfl; exact rfl) | (apply WO.pp; exact rfl; exact rfl)
    exact hQ _ _ _ hw (by simp only; omega) hd
  | succ r ih =>
    intro i j d lo wr hr h1 hi hj hd hw hQ
    have g1 := Go.Sort.scanUp_ge (fun x => ltOf c x d[a]!) d j i
    have g2 := Go.Sort.scanDown_le (fun x => !ltOf c x d[a]!) d (scanUp (fun x => ltOf c x d[a]!) d j i) j
    have e := Go.Sort.partLoop_eq (ltOf c) a i j d
    have hl : d.toList.length = n := by simp [hd]
    refine W.loop ?_
    unfold b238_4
    repeat' first | apply W.seq | apply SQn | apply W.region | apply WO.nil | apply W.block | apply W.ret | apply W.exit | apply W.skip | apply SQr | apply SQe | apply BQn | apply BQr | apply BQe | (apply BQo; exact rfl) | apply LQe | apply LQr | (apply W.drawro; exact rfl) | apply W.draw | apply WD.nil | (apply WD.gT; exact rfl) | (apply WD.gF; exact rfl) | (apply WD.sT; exact rfl) | (apply WD.sF; exact rfl) | (apply WD.sU; exact rfl) | (apply WD.pure1; exact rfl) | (apply WD.load1; exact rfl; exact rfl; exact rfl) | (apply WD.store1; exact rfl; exact rfl; exact rfl) | (apply W.condT; exact rfl) | (apply W.condF; exact rfl) | (apply W.cond; exact rfl; all_goals intro _) | (apply WO.gtr; exact rfl; exact rfl; all_goals first | (intro _; exfalso; omega) | intro _) | (apply WO.add; exact rfl; exact rfl; omega) | (apply WO.sub; exact rfl; exact rfl; omega) | (apply WO.iav; exact rfl; exact rfl; omega) | (apply WO.ias; exact rfl; exact rfl; omega) | (apply WO.lda; exact rfl; exact fun _ => rfl; (first | omega | (simp only [List.length_set]; omega) | (simp; omega)); decide; exact rfl; case ia => infer_instance) | (apply WO.lsa; exact rfl; (first | exact rfl | assumption | exact at_new | (apply at_old; assumption) | (apply at_put; first | assumption | (simp only [put_length]; assumption))); exact fun _ => rfl; (first | omega | (simp only [List.length_set]; omega) | (simp; omega)); decide; exact rfl; case ia => infer_instance) | (apply WO.sta; exact rfl; exact rfl; (first | exact rfl | assumption | exact at_new | (apply at_old; assumption) | (apply at_put; first | assumption | (simp only [put_length]; assumption))); exact fun _ => rfl; (first | omega | (simp only [List.length_set]; omega) | (simp; omega)); exact ⟨rfl, by decide, rfl⟩; exact rfl; case ia => infer_instance) | (apply WO.hlv; exact rfl; exact rfl; exact rfl) | (apply WO.hpv; exact rfl; exact rfl; exact rfl) | (apply WO.hnv; exact rfl; exact rfl; exact rfl) | (apply WO.pl; exact rfl; exact rfl) | (apply WO.pp; exact rfl; exact rfl)
    refine loop238_2 hb hn hc d hd a ha j hj _ _ _ _ _ _ i _ (Nat.le_refl _) hi (fun lo => ?_)
    repeat' first | apply W.seq | apply SQn | apply W.region | apply WO.nil | apply W.block | apply W.ret | apply W.exit | apply W.skip | apply SQr | apply SQe | apply BQn | apply BQr | apply BQe | (apply BQo; exact rfl) | apply LQe | apply LQr | (apply W.drawro; exact rfl) | apply W.draw | apply WD.nil | (apply WD.gT; exact rfl) | (apply WD.gF; exact rfl) | (apply WD.sT; exact rfl) | (apply WD.sF; exact rfl) | (apply WD.sU; exact rfl) | (apply WD.pure1; exact rfl) | (apply WD.load1; exact rfl; exact rfl; exact rfl) | (apply WD.store1; exact rfl; exact rfl; exact rfl) | (apply W.condT; exact rfl) | (apply W.condF; exact rfl) | (apply W.cond; exact rfl; all_goals intro _) | (apply WO.gtr; exact rfl; exact rfl; all_goals first | (intro _; exfalso; omega) | intro _) | (apply WO.add; exact rfl; exact rfl; omega) | (apply WO.sub; exact rfl; exact rfl; omega) | (apply WO.iav; exact rfl; exact rfl; omega) | (apply WO.ias; exact rfl; exact rfl; omega) | (apply WO.lda; exact rfl; exact fun _ => rfl; (first | omega | (simp only [List.length_set]; omega) | (simp; omega)); decide; exact rfl; case ia => infer_instance) | (apply WO.lsa; exact rfl; (first | exact rfl | assumption | exact at_new | (apply at_old; assumption) | (apply at_put; first | assumption | (simp only [put_length]; assumption))); exact fun _ => rfl; (first | omega | (simp only [List.length_set]; omega) | (simp; omega)); decide; exact rfl; case ia => infer_instance) | (apply WO.sta; exact rfl; exact rfl; (first | exact rfl | assumption | exact at_new | (apply at_old; assumption) | (apply at_put; first | assumption | (simp only [put_length]; assumption))); exact fun _ => rfl; (first | omega | (simp only [List.length_set]; omega) | (simp; omega)); exact ⟨rfl, by decide, rfl⟩; exact rfl; case ia => infer_instance) | (apply WO.hlv; exact rfl; exact rfl; exact rfl) | (apply WO.hpv; exact rfl; exact rfl; exact rfl) | (apply WO.hnv; exact rfl; exact rfl; exact rfl) | (apply WO.pl; exact rfl; exact rfl) | (apply WO.pp; exact rfl; exact rfl)
    refine loop238_3 hb hn hc d hd a ha _ (by omega) _ _ _ _ _ j _ hj (fun lo => ?_)
    generalize scanUp (fun x => ltOf c x d[a]!) d j i = i2 at *
    generalize scanDown (fun x => !ltOf c x d[a]!) d i2 j = j2 at *
    have f1 : ((i2 : Int)).toNat = i2 := by omega
    have f2 : ((j2 : Int)).toNat = j2 := by omega
    repeat' first | apply W.seq | apply SQn | apply W.region | apply WO.nil | apply W.block | apply W.ret | apply W.exit | apply W.skip | apply SQr | apply SQe | apply BQn | apply BQr | apply BQe | (apply BQo; exact rfl) | apply LQe | apply LQr | (apply W.drawro; exact rfl) | apply W.draw | apply WD.nil | (apply WD.gT; exact rfl) | (apply WD.gF; exact rfl) | (apply WD.sT; exact rfl) | (apply WD.sF; exact rfl) | (apply WD.sU; exact rfl) | (apply WD.pure1; exact rfl) | (apply WD.load1; exact rfl; exact rfl; exact rfl) | (apply WD.store1; exact rfl; exact rfl; exact rfl) | (apply W.condT; exact rfl) | (apply W.condF; exact rfl) | (apply W.cond; exact rfl; all_goals intro _) | (apply WO.gtr; exact rfl; exact rfl; all_goals first | (intro _; exfalso; omega) | intro _) | (apply WO.add; exact rfl; exact rfl; omega) | (apply WO.sub; exact rfl; exact rfl; omega) | (apply WO.iav; exact rfl; exact rfl; omega) | (apply WO.ias; exact rfl; exact rfl; omega) | (apply WO.lda; exact rfl; exact fun _ => rfl; (first | omega | (simp only [List.length_set]; omega) | (simp; omega)); decide; exact rfl; case ia => infer_instance) | (apply WO.lsa; exact rfl; (first | exact rfl | assumption | exact at_new | (apply at_old; assumption) | (apply at_put; first | assumption | (simp only [put_length]; assumption))); exact fun _ => rfl; (first | omega | (simp only [List.length_set]; omega) | (simp; omega)); decide; exact rfl; case ia => infer_instance) | (apply WO.sta; exact rfl; exact rfl; (first | exact rfl | assumption | exact at_new | (apply at_old; assumption) | (apply at_put; first | assumption | (simp only [put_length]; assumption))); exact fun _ => rfl; (first | omega | (simp only [List.length_set]; omega) | (simp; omega)); exact ⟨rfl, by decide, rfl⟩; exact rfl; case ia => infer_instance) | (apply WO.hlv; exact rfl; exact rfl; exact rfl) | (apply WO.hpv; exact rfl; exact rfl; exact rfl) | (apply WO.hnv; exact rfl; exact rfl; exact rfl) | (apply WO.pl; exact rfl; exact rfl) | (apply WO.pp; exact rfl; exact rfl)
    · rw [if_pos (by omega)] at e
      rw [e] at hQ
      exact hQ _ _ _ hw (by simp only; omega) hd
    · rw [if_neg (by omega)] at e
      rw [e] at hQ
      refine LQn ?_
      rw [put_put, put_put, f1, f2, ← swp_list, show ((j2 : Int) - 1) = ((j2 - 1 : Nat) : Int) by omega]
      exact ih (i2 + 1) (j2 - 1) _ _ _ (by omega) (by omega) (by omega) (by omega) (by rw [swp_len, hd]) hw.cons.cons hQ
set_option maxHeartbeats 2000000 in
theorem r238 (C : CPd M) (hb : b < h.length) (hn : n < 2305843009213693952) (hc : CmpM M g c) (d : Array Mk) (hd : d.size = n) (a e pv : Nat) (hap : a ≤ pv) (hpe : pv < e) (he : e ≤ n) :
    ∃ wr, Only b wr ∧ CT M (fnM 238) [.sl b 0 n 3 cap, .int .i64 a, .int .i64 e, .int .i64 pv, g] (mh h b d.toList) ⟨.tup [.int .i64 (Go.Sort.partition (ltOf c) d a e pv).1, .bool (Go.Sort.partition (ltOf c) d a e pv).2.1], mh h b (Go.Sort.partition (ltOf c) d a e pv).2.2.toList, wr⟩ := by
  obtain ⟨v, l', wr, ⟨rfl, rfl⟩, hw, hct⟩ := run_mhE (M := M) (h := h) (b := b) (l := d.toList) (f := 238) (ars := [.sl b 0 n 3 cap, .int .i64 a, .int .i64 e, .int .i64 pv, g]) (P := fun v l' => v = .tup [.int .i64 (Go.Sort.partition (ltOf c) d a e pv).1, .bool (Go.Sort.partition (ltOf c) d a e pv).2.1] ∧ l' = (Go.Sort.partition (ltOf c) d a e pv).2.2.toList) (by rw [C.ft]; exact ft238) (by simp) C.n238 hb (by rintro v l ⟨rfl, _⟩; rfl) (by
    have hl : d.toList.length = n := by simp [hd]
    have f1 : ((a : Int)).toNat = a := by omega
    have f2 : ((pv : Int)).toNat = pv := by omega
    unfold b238
    simp only [List.map_cons, List.map_nil, List.getElem?_cons_zero, List.getElem?_cons_succ, List.getElem?_nil, Option.getD_some, Option.getD_none]
    repeat' first | apply W.seq | apply SQn | apply W.region | apply WO.nil | apply W.block | apply W.ret | apply W.exit | apply W.skip | apply SQr | apply SQe | apply BQn | apply BQr | apply BQe | (apply BQo; exact rfl) | apply LQe | apply LQr | (apply W.drawro; exact rfl) | apply W.draw | apply WD.nil | (apply WD.gT; exact rfl) | (apply WD.gF; exact rfl) | (apply WD.sT; exact rfl) | (apply WD.sF; exact rfl) | (apply WD.sU; exact rfl) | (apply WD.pure1; exact rfl) | (apply WD.load1; exact rfl; exact rfl; exact rfl) | (apply WD.store1; exact rfl; exact rfl; exact rfl) | (apply W.condT; exact rfl) | (apply W.condF; exact rfl) | (apply W.cond; exact rfl; all_goals intro _) | (apply WO.gtr; exact rfl; exact rfl; all_goals first | (intro _; exfalso; omega) | intro _) | (apply WO.add; exact rfl; exact rfl; omega) | (apply WO.sub; exact rfl; exact rfl; omega) | (apply WO.iav; exact rfl; exact rfl; omega) | (apply WO.ias; exact rfl; exact rfl; omega) | (apply WO.lda; exact rfl; exact fun _ => rfl; (first | omega | (simp only [List.length_set]; omega) | (simp; omega)); decide; exact rfl; case ia => infer_instance) | (apply WO.lsa; exact rfl; (first | exact rfl | assumption | exact at_new | (apply at_old; assumption) | (apply at_put; first | assumption | (simp only [put_length]; assumption))); exact fun _ => rfl; (first | omega | (simp only [List.length_set]; omega) | (simp; omega)); decide; exact rfl; case ia => infer_instance) | (apply WO.sta; exact rfl; exact rfl; (first | exact rfl | assumption | exact at_new | (apply at_old; assumption) | (apply at_put; first | assumption | (simp only [put_length]; assumption))); exact fun _ => rfl; (first | omega | (simp only [List.length_set]; omega) | (simp; omega)); exact ⟨rfl, by decide, rfl⟩; exact rfl; case ia => infer_instance) | (apply WO.hlv; exact rfl; exact rfl; exact rfl) | (apply WO.hpv; exact rfl; exact rfl; exact rfl) | (apply WO.hnv; exact rfl; exact rfl; exact rfl) | (apply WO.pl; exact rfl; exact rfl) | (apply WO.pp; exact rfl; exact rfl)
    rw [put_put, put_put, f1, f2, ← swp_list, show ((a : Int) + 1) = ((a + 1 : Nat) : Int) by omega, show ((e : Int) - 1) = ((e - 1 : Nat) : Int) by omega]
    have hd1 : (swp d a pv).size = n := by rw [swp_len, hd]
    generalize hD : swp d a pv = D at *
    have hlD : D.toList.length = n := by simp [hd1]
    have g1 := Go.Sort.scanUp_ge (fun x => ltOf c x D[a]!) D (e - 1) (a + 1)
    have g2 := Go.Sort.scanDown_le (fun x => !ltOf c x D[a]!) D (scanUp (fun x => ltOf c x D[a]!) D (e - 1) (a + 1)) (e - 1)
    refine loop238_0 hb hn hc D hd1 a (by omega) (e - 1) (by omega) _ _ _ _ _ _ (a + 1) _ (Nat.le_refl _) (by omega) (fun lo => ?_)
    repeat' first | apply W.seq | apply SQn | apply W.region | apply WO.nil | apply W.block | apply W.ret | apply W.exit | apply W.skip | apply SQr | apply SQe | apply BQn | apply BQr | apply BQe | (apply BQo; exact rfl) | apply LQe | apply LQr | (apply W.drawro; exact rfl) | apply W.draw | apply WD.nil | (apply WD.gT; exact rfl) | (apply WD.gF; exact rfl) | (apply WD.sT; exact rfl) | (apply WD.sF; exact rfl) | (apply WD.sU; exact rfl) | (apply WD.pure1; exact rfl) | (apply WD.load1; exact rfl; exact rfl; exact rfl) | (apply WD.store1; exact rfl; exact rfl; exact rfl) | (apply W.condT; exact rfl) | (apply W.condF; exact rfl) | (apply W.cond; exact rfl; all_goals intro _) | (apply WO.gtr; exact rfl; exact rfl; all_goals first | (intro _; exfalso; omega) | intro _) | (apply WO.add; exact rfl; exact rfl; omega) | (apply WO.sub; exact rfl; exact rfl; omega) | (apply WO.iav; exact rfl; exact rfl; omega) | (apply WO.ias; exact rfl; exact rfl; omega) | (apply WO.lda; exact rfl; exact fun _ => rfl; (first | omega | (simp only [List.length_set]; omega) | (simp; omega)); decide; exact rfl; case ia => infer_instance) | (apply WO.lsa; exact rfl; (first | exact rfl | assumption | exact at_new | (apply at_old; assumption) | (apply at_put; first | assumption | (simp only [put_length]; assumption))); exact fun _ => rfl; (first | omega | (simp only [List.length_set]; omega) | (simp; omega)); decide; exact rfl; case ia => infer_instance) | (apply WO.sta; exact rfl; exact rfl; (first | exact rfl | assumption | exact at_new | (apply at_old; assumption) | (apply at_put; first | assumption | (simp only [put_length]; assumption))); exact fun _ => rfl; (first | omega | (simp only [List.length_set]; omega) | (simp; omega)); exact ⟨rfl, by decide, rfl⟩; exact rfl; case ia => infer_instance) | (apply WO.hlv; exact rfl; exact rfl; exact rfl) | (apply WO.hpv; exact rfl; exact rfl; exact rfl) | (apply WO.hnv; exact rfl; exact rfl; exact rfl) | (apply WO.pl; exact rfl; exact rfl) | (apply WO.pp; exact rfl; exact rfl)
    refine loop238_1 hb hn hc D hd1 a (by omega) _ (by omega) _ _ _ _ _ (e - 1) _ (by omega) (fun lo => ?_)
    have eP : Go.Sort.partition (ltOf c) d a e pv = if scanUp (fun x => ltOf c x D[a]!) D (e - 1) (a + 1) > scanDown (fun x => !ltOf c x D[a]!) D (scanUp (fun x => ltOf c x D[a]!) D (e - 1) (a + 1)) (e - 1) then (scanDown (fun x => !ltOf c x D[a]!) D (scanUp (fun x => ltOf c x D[a]!) D (e - 1) (a + 1)) (e - 1), true, swp D (scanDown (fun x => !ltOf c x D[a]!) D (scanUp (fun x => ltOf c x D[a]!) D (e - 1) (a + 1)) (e - 1)) a)
        else ((partLoop (ltOf c) a (scanUp (fun x => ltOf c x D[a]!) D (e - 1) (a + 1) + 1) (scanDown (fun x => !ltOf c x D[a]!) D (scanUp (fun x => ltOf c x D[a]!) D (e - 1) (a + 1)) (e - 1) - 1) (swp D (scanUp (fun x => ltOf c x D[a]!) D (e - 1) (a + 1)) (scanDown (fun x => !ltOf c x D[a]!) D (scanUp (fun x => ltOf c x D[a]!) D (e - 1) (a + 1)) (e - 1)))).1, false, swp (partLoop (ltOf c) a (scanUp (fun x => ltOf c x D[a]!) D (e - 1) (a + 1) + 1) (scanDown (fun x => !ltOf c x D[a]!) D (scanUp (fun x => ltOf c x D[a]!) D (e - 1) (a + 1)) (e - 1) - 1) (swp D (scanUp (fun x => ltOf c x D[a]!) D (e - 1) (a + 1)) (scanDown (fun x => !ltOf c x D[a]!) D (scanUp (fun x => ltOf c x D[a]!) D (e - 1) (a + 1)) (e - 1)))).2 (partLoop (ltOf c) a (scanUp (fun x => ltOf c x D[a]!) D (e - 1) (a + 1) + 1) (scanDown (fun x => !ltOf c x D[a]!) D (scanUp (fun x => ltOf c x D[a]!) D (e - 1) (a + 1)) (e - 1) - 1) (swp D (scanUp (fun x => ltOf c x D[a]!) D (e - 1) (a + 1)) (scanDown (fun x => !ltOf c x D[a]!) D (scanUp (fun x => ltOf c x D[a]!) D (e - 1) (a + 1)) (e - 1)))).1 a) := by
      subst hD; rfl
    generalize scanUp (fun x => ltOf c x D[a]!) D (e - 1) (a + 1) = i2 at *
    generalize scanDown (fun x => !ltOf c x D[a]!) D i2 (e - 1) = j2 at *
    have k1 : ((i2 : Int)).toNat = i2 := by omega
    have k2 : ((j2 : Int)).toNat = j2 := by omega
    repeat' first | apply W.seq | apply SQn | apply W.region | apply WO.nil | apply W.block | apply W.ret | apply W.exit | apply W.skip | apply SQr | apply SQe | apply BQn | apply BQr | apply BQe | (apply BQo; exact rfl) | apply LQe | apply LQr | (apply W.drawro; exact rfl) | apply W.draw | apply WD.nil | (apply WD.gT; exact rfl) | (apply WD.gF; exact rfl) | (apply WD.sT; exact rfl) | (apply WD.sF; exact rfl) | (apply WD.sU; exact rfl) | (apply WD.pure1; exact rfl) | (apply WD.load1; exact rfl; exact rfl; exact rfl) | (apply WD.store1; exact rfl; exact rfl; exact rfl) | (apply W.condT; exact rfl) | (apply W.condF; exact rfl) | (apply W.cond; exact rfl; all_goals intro _) | (apply WO.gtr; exact rfl; exact rfl; all_goals first | (intro _; exfalso; omega) | intro _) | (apply WO.add; exact rfl; exact rfl; omega) | (apply WO.sub; exact rfl; exact rfl; omega) | (apply WO.iav; exact rfl; exact rfl; omega) | (apply WO.ias; exact rfl; exact rfl; omega) | (apply WO.lda; exact rfl; exact fun _ => rfl; (first | omega | (simp only [List.length_set]; omega) | (simp; omega)); decide; exact rfl; case ia => infer_instance) | (apply WO.lsa; exact rfl; (first | exact rfl | assumption | exact at_new | (apply at_old; assumption) | (apply at_put; first | assumption | (simp only [put_length]; assumption))); exact fun _ => rfl; (first | omega | (simp only [List.length_set]; omega) | (simp; omega)); decide; exact rfl; case ia => infer_instance) | (apply WO.sta; exact rfl; exact rfl; (first | exact rfl | assumption | exact at_new | (apply at_old; assumption) | (apply at_put; first | assumption | (simp only [put_length]; assumption))); exact fun _ => rfl; (first | omega | (simp only [List.length_set]; omega) | (simp; omega)); exact ⟨rfl, by decide, rfl⟩; exact rfl; case ia => infer_instance) | (apply WO.hlv; exact rfl; exact rfl; exact rfl) | (apply WO.hpv; exact rfl; exact rfl; exact rfl) | (apply WO.hnv; exact rfl; exact rfl; exact rfl) | (apply WO.pl; exact rfl; exact rfl) | (apply WO.pp; exact rfl; exact rfl)
    · rw [if_pos (by omega)] at eP
      rw [eP, put_put, put_put, f1, k2, ← swp_list]
      exact ⟨.inr rfl, rfl, _, [], (List.append_nil _).symm, (OnlyN.nil).cons.cons.cons.cons, _, rfl, rfl, rfl⟩
    · rw [if_neg (by omega)] at eP
      rw [eP, put_put, put_put, k1, k2, ← swp_list, show ((i2 : Int) + 1) = ((i2 + 1 : Nat) : Int) by omega, show ((j2 : Int) - 1) = ((j2 - 1 : Nat) : Int) by omega]
      refine loop238_4 hb hn hc a (by omega) _ _ _ _ _ (i2 + 1) (j2 - 1) _ _ _ (Nat.le_refl _) (by omega) (by omega) (by omega) (by rw [swp_len, hd1]) Only.nil.cons.cons.cons.cons (fun x lo wr hw h1 h2 => ?_)
      generalize partLoop (ltOf c) a (i2 + 1) (j2 - 1) (swp D i2 j2) = R at *
      obtain ⟨j3, D3⟩ := R
      simp only at h1 h2
      have hl3 : D3.toList.length = n := by simp [h2]
      have k3 : ((j3 : Int)).toNat = j3 := by omega
      repeat' first | apply W.seq | apply SQn | apply W.region | apply WO.nil | apply W.block | apply W.ret | apply W.exit | apply W.skip | apply SQr | apply SQe | apply BQn | apply BQr | apply BQe | (apply BQo; exact rfl) | apply LQe | apply LQr | (apply W.drawro; exact rfl) | apply W.draw | apply WD.nil | (apply WD.gT; exact rfl) | (apply WD.gF; exact rfl) | (apply WD.sT; exact rfl) | (apply WD.sF; exact rfl) | (apply WD.sU; exact rfl) | (apply WD.pure1; exact rfl) | (apply WD.load1; exact rfl; exact rfl; exact rfl) | (apply WD.store1; exact rfl; exact rfl; exact rfl) | (apply W.condT; exact rfl) | (apply W.condF; exact rfl) | (apply W.cond; exact rfl; all_goals intro _) | (apply WO.gtr; exact rfl; exact rfl; all_goals first | (intro _; exfalso; omega) | intro _) | (apply WO.add; exact rfl; exact rfl; omega) | (apply WO.sub; exact rfl; exact rfl; omega) | (apply WO.iav; exact rfl; exact rfl; omega) | (apply WO.ias; exact rfl; exact rfl; omega) | (apply WO.lda; exact rfl; exact fun _ => rfl; (first | omega | (simp only [List.length_set]; omega) | (simp; omega)); decide; exact rfl; case ia => infer_instance) | (apply WO.lsa; exact rfl; (first | exact rfl | assumption | exact at_new | (apply at_old; assumption) | (apply at_put; first | assumption | (simp only [put_length]; assumption))); exact fun _ => rfl; (first | omega | (simp only [List.length_set]; omega) | (simp; omega)); decide; exact rfl; case ia => infer_instance) | (apply WO.sta; exact rfl; exact rfl; (first | exact rfl | assumption | exact at_new | (apply at_old; assumption) | (apply at_put; first | assumption | (simp only [put_length]; assumption))); exact fun _ => rfl; (first | omega | (simp only [List.length_set]; omega) | (simp; omega)); exact ⟨rfl, by decide, rfl⟩; exact rfl; case ia => infer_instance) | (apply WO.hlv; exact rfl; exact rfl; exact rfl) | (apply WO.hpv; exact rfl; exact rfl; exact rfl) | (apply WO.hnv; exact rfl; exact rfl; exact rfl) | (apply WO.pl; exact rfl; exact rfl) | (apply WO.pp; exact rfl; exact rfl)
      rw [put_put, put_put, f1, k3, ← swp_list]
      exact ⟨.inr rfl, rfl, _, [], (List.append_nil _).symm, (OnlyN.only hw).cons.cons, _, rfl, rfl, rfl⟩)
  exact ⟨wr, hw, hct⟩

set_option maxHeartbeats 1000000 in
theorem loop237_2 (hb : b < h.length) (hn : n < 2305843009213693952) (hc : CmpM M g c) (a : Nat) (ha : a < n) (a2 a3 a5 : AV) {Q : Ex → StW → Prop} : ∀ (r i j : Nat) (d : Array Mk) (lo : List (Nat × AV)) (wr : List Nat), j + 1 - i ≤ r → 1 ≤ i → i ≤ n → j < n → d.size = n → Only b wr →
    (∀ x lo wr, Only b wr → Q (.exit 0) ⟨⟨[.sl b 0 n 3 cap, .int .i64 a, a2, a3, g, a5, .int .i64 (partEqLoop (ltOf c) a i j d).1, x], lo, mh h b (partEqLoop (ltOf c) a i j d).2.toList, []⟩, wr⟩) →
    W M (.loop b237_2) ⟨⟨[.sl b 0 n 3 cap, .int .i64 a, a2, a3, g, a5, .int .i64 i, .int .i64 j], lo, mh h b d.toList, []⟩, wr⟩ Q := by
  intro r
  induction r with
  | zero =>
    intro i j d lo wr hr h1 hi hj hd hw hQ
    have g1 := Go.Sort.scanUp_ge (fun x => !ltOf c d[a]! x) d j i
    have g2 := Go.Sort.scanDown_le (fun x => ltOf c d[a]! x) d (scanUp (fun x => !ltOf c d[a]! x) d j i) j
    have e : partEqLoop (ltOf c) a i j d = (scanUp (fun x => !ltOf c d[a]! x) d j i, d) := by rw [Go.Sort.partEqLoop_eq, if_pos (by omega)]
    rw [e] at hQ
    refine W.loop ?_
    unfold b237_2
    repeat' first | apply W.seq | apply SQn | apply W.region | apply WO.nil | apply W.block | apply W.ret | apply W.exit | apply W.skip | apply SQr | apply SQe | apply BQn | apply BQr | apply BQe | (apply BQo; exact rfl) | apply LQe | apply LQr | (apply W.drawro; exact rfl) | apply W.draw | apply WD.nil | (apply WD.gT; exact rfl) | (apply WD.gF; exact rfl) | (apply WD.sT; exact rfl) | (apply WD.sF; exact rfl) | (apply WD.sU; exact rfl) | (apply WD.pure1; exact rfl) | (apply WD.load1; exact rfl; exact rfl; exact rfl) | (apply WD.store1; exact rfl; exact rfl; exact rfl) | (apply W.condT; exact rfl) | (apply W.condF; exact rfl) | (apply W.cond; exact rfl; all_goals intro _) | (apply WO.gtr; exact rfl; exact rfl; all_goals first | (intro _; exfalso; omega) | intro _) | (apply WO.add; exact rfl; exact rfl; omega) | (apply WO.sub; exact rfl; exact rfl; omega) | (apply WO.iav; exact rfl; exact rfl; omega) | (apply WO.ias; exact rfl; exact rfl; omega) | (apply WO.lda; exact rfl; exact fun _ => rfl; (first | omega | (simp only [List.length_set]; omega) | (simp; omega)); decide; exact rfl; case ia => infer_instance) | (apply WO.lsa; exact rfl; (first | exact rfl | assumption | exact at_new | (apply at_old; assumption) | (apply at_put; first | assumption | (simp only [put_length]; assumption))); exact fun _ => rfl; (first | omega | (simp only [List.length_set]; omega) | (simp; omega)); decide; exact rfl; case ia => infer_instance) | (apply WO.sta; exact rfl; exact rfl; (first | exact rfl | assumption | exact at_new | (apply at_old; assumption) | (apply at_put; first | assumption | (simp only [put_length]; assumption))); exact fun _ => rfl; (first | omega | (simp only [List.length_set]; omega) | (simp; omega)); exact ⟨rfl, by decide, rfl⟩; exact rfl; case ia => infer_instance) | (apply WO.hlv; exact rfl; exact rfl; exact rfl) | (apply WO.hpv; exact rfl; exact rfl; exact rfl) | (apply WO.hnv; exact rfl; exact rfl; exact rfl) | (apply WO.pl; exact rfl; exact rfl) | (apply WO.pp; exact rfl; exact rfl)
    refine loop237_0 hb hn hc d hd a ha j hj _ _ _ _ _ i _ (Nat.le_refl _) hi (fun lo => ?_)
    repeat' first | apply W.seq | apply SQn | apply W.region | apply WO.nil | apply W.block | apply W.ret | apply W.exit | apply W.skip | apply SQr | apply SQe | apply BQn | apply BQr | apply BQe | (apply BQo; exact rfl) | apply LQe | apply LQr | (apply W.drawro; exact rfl) | apply W.draw | apply WD.nil | (apply WD.gT; exact rfl) | (apply WD.gF; exact rfl) | (apply WD.sT; exact rfl) | (apply WD.sF; exact rfl) | (apply WD.sU; exact rfl) | (apply WD.pure1; exact rfl) | (apply WD.load1; exact rfl; exact rfl; exact rfl) | (apply WD.store1; exact rfl; exact rfl; exact rfl) | (apply W.condT; exact rfl) | (apply W.condF; exact rfl) | (apply W.cond; exact rfl; all_goals intro _) | (apply WO.gtr; exact rfl; exact rfl; all_goals first | (intro _; exfalso; omega) | intro _) | (apply WO.add; exact rfl; exact rfl; omega) | (apply WO.sub; exact rfl; exact rfl; omega) | (apply WO.iav; exact rfl; exact rfl; omega) | (apply WO.ias; exact rfl; exact rfl; omega) | (apply WO.lda; exact rfl; exact fun _ => rfl; (first | omega | (simp only [List.length_set]; omega) | (simp; omega)); decide; exact rfl; case ia => infer_instance) | (apply WO.lsa; exact rfl; (first | exact rfl | assumption | exact at_new | (apply at_old; assumption) | (apply at_put; first | assumption | (simp only [put_length]; assumption))); exact fun _ => rfl; (first | omega | (simp only [List.length_set]; omega) | (simp; omega)); decide; exact rfl; case ia => infer_instance) | (apply WO.sta; exact rfl; exact rfl; (first | exact rfl | assumption | exact at_new | (apply at_old; assumption) | (apply at_put; first | assumption | (simp only [put_length]; assumption))); exact fun _ => rfl; (first | omega | (simp only [List.length_set]; omega) | (simp; omega)); exact ⟨rfl, by decide, rfl⟩; exact rfl; case ia => infer_instance) | (apply WO.hlv; exact rfl; exact rfl; exact rfl) | (apply WO.hpv; exact rfl; exact rfl; exact rfl) | (apply WO.hnv; exact rfl; exact rfl; exact rfl) | (apply WO.pl; exact rfl; exact rfl) | (apply WO.pp; exact rfl; exact rfl)
    refine loop237_1 hb hn hc d hd a ha _ (by omega) _ _ _ _ j _ hj (fun lo => ?_)
    repeat' first | apply W.seq | apply SQn | apply W.region | apply WO.nil | apply W.block | apply W.ret | apply W.exit | apply W.skip | apply SQr | apply SQe | apply BQn | apply BQr | apply BQe | (apply BQo; exact rfl) | apply LQe | apply LQr | (apply W.drawro; exact rfl) | apply W.draw | apply WD.nil | (apply WD.gT; exact rfl) | (apply WD.gF; exact rfl) | (apply WD.sT; exact rfl) | (apply WD.sF; exact rfl) | (apply WD.sU; exact rfl) | (apply WD.pure1; exact rfl) | (apply WD.load1; exact rfl; exact rfl; exact rfl) | (apply WD.store1; exact rfl; exact rfl; exact rfl) | (apply W.condT; exact rfl) | (apply W.condF; exact rfl) | (apply W.cond; exact rfl; all_goals intro _) | (apply WO.gtr; exact rfl; exact rfl; all_goals first | (intro _; exfalso; omega) | intro _) | (apply WO.add; exact rfl; exact rfl; omega) | (apply WO.sub; exact rfl; exact rfl; omega) | (apply WO.iav; exact rfl; exact rfl; omega) | (apply WO.ias; exact rfl; exact rfl; omega) | (apply WO.lda; exact rfl; exact fun _ => rfl; (first | omega | (simp only [List.length_set]; omega) | (simp; omega)); decide; exact rfl; case ia => infer_instance) | (apply WO.lsa; exact rfl; (first | exact rfl | assumption | exact at_new | (apply at_old; assumption) | (apply at_put; first | assumption | (simp only [put_length]; assumption))); exact fun _ => rfl; (first | omega | (simp only [List.length_set]; omega) | (simp; omega)); decide; exact rfl; case ia => infer_instance) | (apply WO.sta; exact rfl; exact rfl; (first | exact rfl | assumption | exact at_new | (apply at_old; assumption) | (apply at_put; first | assumption | (simp only [put_length]; assumption))); exact fun _ => rfl; (first | omega | (simp only [List.length_set]; omega) | (simp; omega)); exact ⟨rfl, by decide, rfl⟩; exact rfl; case ia => infer_instance) | (apply WO.hlv; exact rfl; exact rfl; exact rfl) | (apply WO.hpv; exact rfl; exact rfl; exact rfl) | (apply WO.hnv; exact rfl; exact rfl; exact rfl) | (apply WO.pl; exact rfl; exact rfl) | (apply WO.pp; exact rfl; exact rfl)
    exact hQ _ _ _ hw
  | succ r ih =>
    intro i j d lo wr hr h1 hi hj hd hw hQ
    have g1 := Go.Sort.scanUp_ge (fun x => !ltOf c d[a]! x) d j i
    have g2 := Go.Sort.scanDown_le (fun x => ltOf c d[a]! x) d (scanUp (fun x => !ltOf c d[a]! x) d j i) j
    have e := Go.Sort.partEqLoop_eq (ltOf c) a i j d
    have hl : d.toList.length = n := by simp [hd]
    refine W.loop ?_
    unfold b237_2
    repeat' first | apply W.seq | apply SQn | apply W.region | apply WO.nil | apply W.block | apply W.ret | apply W.exit | apply W.skip | apply SQr | apply SQe | apply BQn | apply BQr | apply BQe | (apply BQo; exact rfl) | apply LQe | apply LQr | (apply W.drawro; exact rfl) | apply W.draw | apply WD.nil | (apply WD.gT; exact rfl) | (apply WD.gF; exact rfl) | (apply WD.sT; exact rfl) | (apply WD.sF; exact rfl) | (apply WD.sU; exact rfl) | (apply WD.pure1; exact rfl) | (apply WD.load1; exact rfl; exact rfl; exact rfl) | (apply WD.store1; exact rfl; exact rfl; exact rfl) | (apply W.condT; exact rfl) | (apply W.condF; exact rfl) | (apply W.cond; exact rfl; all_goals intro _) | (apply WO.gtr; exact rfl; exact rfl; all_goals first | (intro _; exfalso; omega) | intro _) | (apply WO.add; exact rfl; exact rfl; omega) | (apply WO.sub; exact rfl; exact rfl; omega) | (apply WO.iav; exact rfl; exact rfl; omega) | (apply WO.ias; exact rfl; exact rfl; omega) | (apply WO.lda; exact rfl; exact fun _ => rfl; (first | omega | (simp only [List.length_set]; omega) | (simp; omega)); decide; exact rfl; case ia => infer_instance) | (apply WO.lsa; exact rfl; (first | exact rfl | assumption | exact at_new | (apply at_old; assumption) | (apply at_put; first | assumption | (simp only [put_length]; assumption))); exact fun _ => rfl; (first | omega | (simp only [List.length_set]; omega) | (simp; omega)); decide; exact rfl; case ia => infer_instance) | (apply WO.sta; exact rfl; exact rfl; (first | exact rfl | assumption | exact at_new | (apply at_old; assumption) | (apply at_put; first | assumption | (simp only [put_length]; assumption))); exact fun _ => rfl; (first | omega | (simp only [List.length_set]; omega) | (simp; omega)); exact ⟨rfl, by decide, rfl⟩; exact rfl; case ia => infer_instance) | (apply WO.hlv; exact rfl; exact rfl; exact rfl) | (apply WO.hpv; exact rfl; exact rfl; exact rfl) | (apply WO.hnv; exact rfl; exact rfl; exact rfl) | (apply WO.pl; exact rfl; exact rfl) | (apply WO.pp; exact rfl; exact rfl)
    refine loop237_0 hb hn hc d hd a ha j hj _ _ _ _ _ i _ (Nat.le_refl _) hi (fun lo => ?_)
    repeat' first | apply W.seq | apply SQn | apply W.region | apply WO.nil | apply W.block | apply W.ret | apply W.exit | apply W.skip | apply SQr | apply SQe | apply BQn | apply BQr | apply BQe | (apply BQo; exact rfl) | apply LQe | apply LQr | (apply W.drawro; exact rfl) | apply W.draw | apply WD.nil | (apply WD.gT; exact rfl) | (apply WD.gF; exact rfl) | (apply WD.sT; exact rfl) | (apply WD.sF; exact rfl) | (apply WD.sU; exact rfl) | (apply WD.pure1; exact rfl) | (apply WD.load1; exact rfl; exact rfl; exact rfl) | (apply WD.store1; exact rfl; exact rfl; exact rfl) | (apply W.condT; exact rfl) | (apply W.condF; exact rfl) | (apply W.cond; exact rfl; all_goals intro _) | (apply WO.gtr; exact rfl; exact rfl; all_goals first | (intro _; exfalso; omega) | intro _) | (apply WO.add; exact rfl; exact rfl; omega) | (apply WO.sub; exact rfl; exact rfl; omega) | (apply WO.iav; exact rfl; exact rfl; omega) | (apply WO.ias; exact rfl; exact rfl; omega) | (apply WO.lda; exact rfl; exact fun _ => rfl; (first | omega | (simp only [List.length_set]; omega) | (simp; omega)); decide; exact rfl; case ia => infer_instance) | (apply WO.lsa; exact rfl; (first | exact rfl | assumption | exact at_new | (apply at_old; assumption) | (apply at_put; first | assumption | (simp only [put_length]; assumption))); exact fun _ => rfl; (first | omega | (simp only [List.length_set]; omega) | (simp; omega)); decide; exact rfl; case ia => infer_instance) | (apply WO.sta; exact rfl; exact rfl; (first | exact rfl | assumption | exact at_new | (apply at_old; assumption) | (apply at_put; first | assumption | (simp only [put_length]; assumption))); exact fun _ => rfl; (first | omega | (simp only [List.length_set]; omega) | (simp; omega)); exact ⟨rfl, by decide, rfl⟩; exact rfl; case ia => infer_instance) | (apply WO.hlv; exact rfl; exact rfl; exact rfl) | (apply WO.hpv; exact rfl; exact rfl; exact rfl) | (apply WO.hnv; exact rfl; exact rfl; exact rfl) | (apply WO.pl; exact rfl; exact rfl) | (apply WO.pp; exact rfl; exact rfl)
    refine loop237_1 hb hn hc d hd a ha _ (by omega) _ _ _ _ j _ hj (fun lo => ?_)
    generalize scanUp (fun x => !ltOf c d[a]! x) d j i = i2 at *
    generalize scanDown (fun x => ltOf c d[a]! x) d i2 j = j2 at *
    have f1 : ((i2 : Int)).toNat = i2 := by omega
    have f2 : ((j2 : Int)).toNat = j2 := by omega
    repeat' first | apply W.seq | apply SQn | apply W.region | apply WO.nil | apply W.block | apply W.ret | apply W.exit | apply W.skip | apply SQr | apply SQe | apply BQn | apply BQr | apply BQe | (apply BQo; exact rfl) | apply LQe | apply LQr | (apply W.drawro; exact rfl) | apply W.draw | apply WD.nil | (apply WD.gT; exact rfl) | (apply WD.gF; exact rfl) | (apply WD.sT; exact rfl) | (apply WD.sF; exact rfl) | (apply WD.sU; exact rfl) | (apply WD.pure1; exact rfl) | (apply WD.load1; exact rfl; exact rfl; exact rfl) | (apply WD.store1; exact rfl; exact rfl; exact rfl) | (apply W.condT; exact rfl) | (apply W.condF; exact rfl) | (apply W.cond; exact rfl; all_goals intro _) | (apply WO.gtr; exact rfl; exact rfl; all_goals first | (intro _; exfalso; omega) | intro _) | (apply WO.add; exact rfl; exact rfl; omega) | (apply WO.sub; exact rfl; exact rfl; omega) | (apply WO.iav; exact rfl; exact rfl; omega) | (apply WO.ias; exact rfl; exact rfl; omega) | (apply WO.lda; exact rfl; exact fun _ => rfl; (first | omega | (simp only [List.length_set]; omega) | (simp; omega)); decide; exact rfl; case ia => infer_instance) | (apply WO.lsa; exact rfl; (first | exact rfl | assumption | exact at_new | (apply at_old; assumption) | (apply at_put; first | assumption | (simp only [put_length]; assumption))); exact fun _ => rfl; (first | omega | (simp only [List.length_set]; omega) | (simp; omega)); decide; exact rfl; case ia => infer_instance) | (apply WO.sta; exact rfl; exact rfl; (first | exact rfl | assumption | exact at_new | (apply at_old; assumption) | (apply at_put; first | assumption | (simp only [put_length]; assumption))); exact fun _ => rfl; (first | omega | (simp only [List.length_set]; omega) | (simp; omega)); exact ⟨rfl, by decide, rfl⟩; exact rfl; case ia => infer_instance) | (apply WO.hlv; exact rfl; exact rfl; exact rfl) | (apply WO.hpv; exact rfl; exact rfl; exact rfl) | (apply WO.hnv; exact rfl; exact rfl; exact rfl) | (apply WO.pl; exact rfl; exact rfl) | (apply WO.pp; exact rfl; exact rfl)
    · rw [if_pos (by omega)] at e
      rw [e] at hQ
      exact hQ _ _ _ hw
    · rw [if_neg (by omega)] at e
      rw [e] at hQ
      refine LQn ?_
      rw [put_put, put_put, f1, f2, ← swp_list, show ((j2 : Int) - 1) = ((j2 - 1 : Nat) : Int) by omega]
      exact ih (i2 + 1) (j2 - 1) _ _ _ (by omega) (by omega) (by omega) (by omega) (by rw [swp_len, hd]) hw.cons.cons hQ
theorem r237 (C : CPd M) (hb : b < h.length) (hn : n < 2305843009213693952) (hc : CmpM M g c) (d : Array Mk) (hd : d.size = n) (a e pv : Nat) (hap : a ≤ pv) (hpe : pv < e) (he : e ≤ n) :
    ∃ wr, Only b wr ∧ CT M (fnM 237) [.sl b 0 n 3 cap, .int .i64 a, .int .i64 e, .int .i64 pv, g] (mh h b d.toList) ⟨.int .i64 (Go.Sort.partitionEqual (ltOf c) d a e pv).1, mh h b (Go.Sort.partitionEqual (ltOf c) d a e pv).2.toList, wr⟩ := by
  obtain ⟨v, l', wr, ⟨rfl, rfl⟩, hw, hct⟩ := run_mhE (M := M) (h := h) (b := b) (l := d.toList) (f := 237) (ars := [.sl b 0 n 3 cap, .int .i64 a, .int .i64 e, .int .i64 pv, g]) (P := fun v l' => v = .int .i64 (Go.Sort.partitionEqual (ltOf c) d a e pv).1 ∧ l' = (Go.Sort.partitionEqual (ltOf c) d a e pv).2.toList) (by rw [C.ft]; exact ft237) (by simp) C.n237 hb (by rintro v l ⟨rfl, _⟩; rfl) (by
    have hl : d.toList.length = n := by simp [hd]
    have f1 : ((a : Int)).toNat = a := by omega
    have f2 : ((pv : Int)).toNat = pv := by omega
    unfold b237
    simp only [List.map_cons, List.map_nil, List.getElem?_cons_zero, List.getElem?_cons_succ, List.getElem?_nil, Option.getD_some, Option.getD_none]
    repeat' first | apply W.seq | apply SQn | apply W.region | apply WO.nil | apply W.block | apply W.ret | apply W.exit | apply W.skip | apply SQr | apply SQe | apply BQn | apply BQr | apply BQe | (apply BQo; exact rfl) | apply LQe | apply LQr | (apply W.drawro; exact rfl) | apply W.draw | apply WD.nil | (apply WD.gT; exact rfl) | (apply WD.gF; exact rfl) | (apply WD.sT; exact rfl) | (apply WD.sF; exact rfl) | (apply WD.sU; exact rfl) | (apply WD.pure1; exact rfl) | (apply WD.load1; exact rfl; exact rfl; exact rfl) | (apply WD.store1; exact rfl; exact rfl; exact rfl) | (apply W.condT; exact rfl) | (apply W.condF; exact rfl) | (apply W.cond; exact rfl; all_goals intro _) | (apply WO.add; exact rfl; exact rfl; omega) | (apply WO.sub; exact rfl; exact rfl; omega) | (apply WO.iav; exact rfl; exact rfl; omega) | (apply WO.ias; exact rfl; exact rfl; omega) | (apply WO.lda; exact rfl; exact fun _ => rfl; (first | omega | (simp only [List.length_set]; omega) | (simp; omega)); decide; exact rfl; case ia => infer_instance) | (apply WO.lsa; exact rfl; (first | exact rfl | assumption | exact at_new | (apply at_old; assumption) | (apply at_put; first | assumption | (simp only [put_length]; assumption))); exact fun _ => rfl; (first | omega | (simp only [List.length_set]; omega) | (simp; omega)); decide; exact rfl; case ia => infer_instance) | (apply WO.sta; exact rfl; exact rfl; (first | exact rfl | assumption | exact at_new | (apply at_old; assumption) | (apply at_put; first | assumption | (simp only [put_length]; assumption))); exact fun _ => rfl; (first | omega | (simp only [List.length_set]; omega) | (simp; omega)); exact ⟨rfl, by decide, rfl⟩; exact rfl; case ia => infer_instance) | (apply WO.hlv; exact rfl; exact rfl; exact rfl) | (apply WO.hpv; exact rfl; exact rfl; exact rfl) | (apply WO.hnv; exact rfl; exact rfl; exact rfl) | (apply WO.pl; exact rfl; exact rfl) | (apply WO.pp; exact rfl; exact rfl)
    rw [put_put, put_put, f1, f2, ← swp_list, show ((a : Int) + 1) = ((a + 1 : Nat) : Int) by omega, show ((e : Int) - 1) = ((e - 1 : Nat) : Int) by omega]
    refine loop237_2 hb hn hc a (by omega) _ _ _ _ (a + 1) (e - 1) _ _ _ (Nat.le_refl _) (by omega) (by omega) (by omega) (by rw [swp_len, hd]) Only.nil.cons.cons (fun x lo wr hw => ?_)
    repeat' first | apply W.seq | apply SQn | apply W.region | apply WO.nil | apply W.block | apply W.ret | apply W.exit | apply W.skip | apply SQr | apply SQe | apply BQn | apply BQr | apply BQe | (apply BQo; exact rfl) | apply LQe | apply LQr | (apply W.drawro; exact rfl) | apply W.draw | apply WD.nil | (apply WD.gT; exact rfl) | (apply WD.gF; exact rfl) | (apply WD.sT; exact rfl) | (apply WD.sF; exact rfl) | (apply WD.sU; exact rfl) | (apply WD.pure1; exact rfl) | (apply WD.load1; exact rfl; exact rfl; exact rfl) | (apply WD.store1; exact rfl; exact rfl; exact rfl) | (apply W.condT; exact rfl) | (apply W.condF; exact rfl) | (apply W.cond; exact rfl; all_goals intro _) | (apply WO.add; exact rfl; exact rfl; omega) | (apply WO.sub; exact rfl; exact rfl; omega) | (apply WO.iav; exact rfl; exact rfl; omega) | (apply WO.ias; exact rfl; exact rfl; omega) | (apply WO.lda; exact rfl; exact fun _ => rfl; (first | omega | (simp only [List.length_set]; omega) | (simp; omega)); decide; exact rfl; case ia => infer_instance) | (apply WO.lsa; exact rfl; (first | exact rfl | assumption | exact at_new | (apply at_old; assumption) | (apply at_put; first | assumption | (simp only [put_length]; assumption))); exact fun _ => rfl; (first | omega | (simp only [List.length_set]; omega) | (simp; omega)); decide; exact rfl; case ia => infer_instance) | (apply WO.sta; exact rfl; exact rfl; (first | exact rfl | assumption | exact at_new | (apply at_old; assumption) | (apply at_put; first | assumption | (simp only [put_length]; assumption))); exact fun _ => rfl; (first | omega | (simp only [List.length_set]; omega) | (simp; omega)); exact ⟨rfl, by decide, rfl⟩; exact rfl; case ia => infer_instance) | (apply WO.hlv; exact rfl; exact rfl; exact rfl) | (apply WO.hpv; exact rfl; exact rfl; exact rfl) | (apply WO.hnv; exact rfl; exact rfl; exact rfl) | (apply WO.pl; exact rfl; exact rfl) | (apply WO.pp; exact rfl; exact rfl)
    exact ⟨.inr rfl, rfl, _, [], (List.append_nil _).symm, OnlyN.only hw, _, rfl, rfl, rfl⟩)
  exact ⟨wr, hw, hct⟩
end Go.Ab.Ch1


/-
  Own work: the pivot's choice, and the sort that is tried first.
-/
namespace Go.Ab.Ch1
open Go.Sort (swp)
variable {M : Mach} {h : Heap} {b n : Nat} {cap : Option Nat} {g : AV} {c : Mk → Mk → Int}

theorem put_new {h : Heap} {x y : Option Blk} : (h ++ [x]).put h.length y = h ++ [y] := by simp [Heap.put]

/-- A run that turns one block, the last one. -/
theorem run_bx {h : Heap} {x0 : AV} {e : TypeId} {f N : Nat} {pers : List Nat} {res : List IRes} {body : ICode} {ars : List AV} {P : AV → AV → Prop} (hft : M.FT f = some ⟨N, pers, res, body⟩) (hN : ars.length ≤ N) (hx : ∀ ars h, M.ext f ars h = none) (hv : ∀ v x, P v x → v.top = 0 ∧ x.top = 0)
    (hW : W M body ⟨⟨pers.map (fun t => (ars[t]?).getD undefA), [], h ++ [some (.cells [x0] e)], []⟩, []⟩ fun e1 s => (e1 = .normal ∨ e1 = .ret) ∧ s.s.dfs = [] ∧ ∃ x, s.s.hp = h ++ [some (.cells [x] e)] ∧ OnlyN h.length (h.length + 1) s.wr ∧ ∃ vs, resultsA s.s res = some vs ∧ P (tupA vs) x) :
    ∃ v x wr, P v x ∧ Only h.length wr ∧ CT M (fnM f) ars (h ++ [some (.cells [x0] e)]) ⟨v, h ++ [some (.cells [x] e)], wr⟩ := by
  obtain ⟨⟨k, e1, s, h1, h2, h3, x, h4, h5, vs, h6, h7⟩⟩ := hW
  obtain ⟨t1, t2⟩ := hv _ _ h7
  obtain ⟨wr, hw, hr⟩ := ret_own (h := h ++ [some (.cells [x0] e)]) (J := []) (c0 := [x0]) (c := [x]) (e := e) (b := h.length) (v := tupA vs) (s := s) (by simp) (by rw [put_new, h4]; simp) (by simpa using h5) (by simp [topL, t2]) t1
  rw [put_new, put_new] at hr
  refine ⟨_, x, wr, h7, hw, CT.run (hx _ _) ?_⟩
  have := run_of_WH (r := ⟨tupA vs, h ++ [some (.cells [x] e)], wr⟩) hft hN ⟨⟨k, e1, s, h1, h2, h3, vs, h6, hr⟩⟩
  simpa using this

theorem r311 (C : CPd M) (hb : b < h.length) (hn : n < 2305843009213693952) (hc : CmpM M g c) (d : Array Mk) (hd : d.size = n) (p q s : Nat) (hp : p < n) (hq : q < n) (hs : s < 1000) :
    ∃ (x y s' : Nat) (wr : List Nat), ((x = p ∧ y = q) ∨ (x = q ∧ y = p)) ∧ s' ≤ s + 1 ∧ Only (mh h b d.toList).length wr ∧ CT M (fnM 311) [.sl b 0 n 3 cap, .int .i64 p, .int .i64 q, .ptr (mh h b d.toList).length 0, g] (mh h b d.toList ++ [some (.cells [.int .i64 s] 3)]) ⟨.tup [.int .i64 x, .int .i64 y], mh h b d.toList ++ [some (.cells [.int .i64 s'] 3)], wr⟩ := by
  have hl : d.toList.length = n := by simp [hd]
  have hat : Heap.at (mh h b d.toList ++ [some (.cells [.int .i64 s] 3)]) b = some (.cells (arr cm d.toList) 49) := at_old (at_put hb)
  obtain ⟨v, x, wr, ⟨x', y', s', h1, rfl, rfl, h2⟩, h3, h4⟩ := run_bx (M := M) (h := mh h b d.toList) (x0 := .int .i64 s) (e := 3) (f := 311) (ars := [.sl b 0 n 3 cap, .int .i64 p, .int .i64 q, .ptr (mh h b d.toList).length 0, g]) (P := fun v x => ∃ x' y' s' : Nat, ((x' = p ∧ y' = q) ∨ (x' = q ∧ y' = p)) ∧ v = .tup [.int .i64 x', .int .i64 y'] ∧ x = .int .i64 s' ∧ s' ≤ s + 1) (by rw [C.ft]; exact ft311) (by simp) C.n311 (by rintro v x ⟨_, _, _, _, rfl, rfl, _⟩; exact ⟨rfl, rfl⟩) (by
    unfold b311
    simp only [List.map_cons, List.map_nil, List.getElem?_cons_zero, List.getElem?_cons_succ, List.getElem?_nil, Option.getD_some, Option.getD_none]
    repeat' first | (apply WO.stw; exact rfl; exact rfl; exact at_new; exact ⟨rfl, rfl, rfl⟩) | (apply WO.ldb; exact rfl; exact at_new; exact rfl) | apply W.seq | apply SQn | apply W.region | apply WO.nil | apply W.block | apply W.ret | apply W.exit | apply W.skip | apply SQr | apply SQe | apply BQn | apply BQr | apply BQe | (apply BQo; exact rfl) | apply LQe | apply LQr | (apply W.drawro; exact rfl) | apply W.draw | apply WD.nil | (apply WD.gT; exact rfl) | (apply WD.gF; exact rfl) | (apply WD.sT; exact rfl) | (apply WD.sF; exact rfl) | (apply WD.sU; exact rfl) | (apply WD.pure1; exact rfl) | (apply WD.load1; exact rfl; exact rfl; exact rfl) | (apply WD.store1; exact rfl; exact rfl; exact rfl) | (apply WD.clb; exact rfl; exact rfl; exact rfl; exact rfl; all_goals first | (intro h; exact absurd h (by decide)) | intro _) | (apply WD.cl0; exact rfl; exact rfl; exact rfl; exact rfl) | (apply WD.cl1; exact rfl; exact rfl; exact rfl; exact rfl) | (apply W.condT; exact rfl) | (apply W.condF; exact rfl) | (apply W.cond; exact rfl; all_goals intro _) | (apply WO.lss; exact rfl; exact rfl; all_goals first | (intro _; exfalso; omega) | intro _) | (apply WO.add; exact rfl; exact rfl; omega) | (apply WO.ct; exact rfl; exact rfl; first | exact hc _ _ _) | (apply WO.ctn; exact rfl; exact rfl; first | exact hc _ _ _) | (apply WD.ct; exact rfl; exact rfl; exact rfl; first | exact hc _ _ _) | (apply WO.iav; exact rfl; exact rfl; omega) | (apply WO.ias; exact rfl; exact rfl; omega) | (apply WO.lda; exact rfl; exact fun _ => rfl; (first | omega | (simp only [List.length_set]; omega) | (simp; omega)); decide; exact rfl; case ia => infer_instance) | (apply WO.lsa; exact rfl; (first | exact rfl | assumption | exact at_new | (apply at_old; assumption) | (apply at_put; first | assumption | (simp only [put_length]; assumption))); exact fun _ => rfl; (first | omega | (simp only [List.length_set]; omega) | (simp; omega)); decide; exact rfl; case ia => infer_instance) | (apply WO.sta; exact rfl; exact rfl; (first | exact rfl | assumption | exact at_new | (apply at_old; assumption) | (apply at_put; first | assumption | (simp only [put_length]; assumption))); exact fun _ => rfl; (first | omega | (simp only [List.length_set]; omega) | (simp; omega)); exact ⟨rfl, by decide, rfl⟩; exact rfl; case ia => infer_instance) | (apply WO.clb; exact rfl; exact rfl; exact rfl; all_goals first | (intro h; exact absurd h (by decide)) | intro _) | (apply WO.cll; exact rfl; exact rfl; exact rfl) | (apply WO.hlv; exact rfl; exact rfl; exact rfl) | (apply WO.hpv; exact rfl; exact rfl; exact rfl) | (apply WO.hnv; exact rfl; exact rfl; exact rfl) | (apply WO.pl; exact rfl; exact rfl) | (apply WO.pp; exact rfl; exact rfl)
    · refine ⟨.inr rfl, rfl, _, ?_, ?_, _, rfl, q, p, s + 1, .inr ⟨rfl, rfl⟩, rfl, rfl, Nat.le_refl _⟩
      · show Heap.put _ _ _ = _
        rw [put_new]
        rfl
      · exact (OnlyN.nil).cons
    · exact ⟨.inr rfl, rfl, _, rfl, OnlyN.nil, _, rfl, p, q, s, .inl ⟨rfl, rfl⟩, rfl, rfl, Nat.le_succ _⟩)
  exact ⟨x', y', s', wr, h1, h2, h3, h4⟩

theorem r274 (C : CPd M) (hb : b < h.length) (hn : n < 2305843009213693952) (hc : CmpM M g c) (d : Array Mk) (hd : d.size = n) (p q r s : Nat) (hp : p < n) (hq : q < n) (hr : r < n) (hs : s < 900) :
    ∃ (x s' : Nat) (wr : List Nat), (x = p ∨ x = q ∨ x = r) ∧ s' ≤ s + 3 ∧ Only (mh h b d.toList).length wr ∧ CT M (fnM 274) [.sl b 0 n 3 cap, .int .i64 p, .int .i64 q, .int .i64 r, .ptr (mh h b d.toList).length 0, g] (mh h b d.toList ++ [some (.cells [.int .i64 s] 3)]) ⟨.int .i64 x, mh h b d.toList ++ [some (.cells [.int .i64 s'] 3)], wr⟩ := by
  obtain ⟨x1, y1, s1, w1, k1, m1, o1, c1⟩ := r311 (cap := cap) C hb hn hc d hd p q s hp hq (by omega)
  obtain ⟨x2, y2, s2, w2, k2, m2, o2, c2⟩ := r311 (cap := cap) C hb hn hc d hd y1 r s1 (by omega) hr (by omega)
  obtain ⟨x3, y3, s3, w3, k3, m3, o3, c3⟩ := r311 (cap := cap) C hb hn hc d hd x1 x2 s2 (by omega) (by omega) (by omega)
  obtain ⟨v, x, wr, ⟨rfl, rfl⟩, h3, h4⟩ := run_bx (M := M) (h := mh h b d.toList) (x0 := .int .i64 s) (e := 3) (f := 274) (ars := [.sl b 0 n 3 cap, .int .i64 p, .int .i64 q, .int .i64 r, .ptr (mh h b d.toList).length 0, g]) (P := fun v x => v = .int .i64 y3 ∧ x = .int .i64 s3) (by rw [C.ft]; exact ft274) (by simp) C.n274 (by rintro v x ⟨rfl, rfl⟩; exact ⟨rfl, rfl⟩) (by
    unfold b274
    simp only [List.map_cons, List.map_nil, List.getElem?_cons_zero, List.getElem?_cons_succ, List.getElem?_nil, Option.getD_some, Option.getD_none]
    repeat' first | apply W.seq | apply SQn | apply W.region | apply WO.nil | apply W.block | apply W.ret | apply W.exit | apply W.skip | apply SQr | apply SQe | apply BQn | apply BQr | apply BQe | (apply BQo; exact rfl) | apply LQe | apply LQr | (apply W.condT; exact rfl) | (apply W.condF; exact rfl) | (apply W.cond; exact rfl; all_goals intro _) | (apply WO.ct; exact rfl; exact rfl; first | exact c1 | exact c2 | exact c3) | (apply WO.ctn; exact rfl; exact rfl; first | exact c1 | exact c2 | exact c3) | (apply WD.ct; exact rfl; exact rfl; exact rfl; first | exact c1 | exact c2 | exact c3) | (apply WO.clb; exact rfl; exact rfl; exact rfl; all_goals first | (intro h; exact absurd h (by decide)) | intro _) | (apply WO.cll; exact rfl; exact rfl; exact rfl) | (apply WO.pl; exact rfl; exact rfl) | (apply WO.pp; exact rfl; exact rfl)
    exact ⟨.inr rfl, rfl, _, rfl, (OnlyN.only o3).app ((OnlyN.only o2).app ((OnlyN.only o1).app OnlyN.nil)), _, rfl, rfl, rfl⟩)
  exact ⟨y3, s3, wr, by omega, by omega, h3, h4⟩

theorem r234 (C : CPd M) (hb : b < h.length) (hn : n < 50) (hc : CmpM M g c) (d : Array Mk) (hd : d.size = n) (a e : Nat) (ha : a + 8 ≤ e) (he : e ≤ n) :
    ∃ (p : Nat) (x : Int), a ≤ p ∧ p < e ∧ CT M (fnM 234) [.sl b 0 n 3 cap, .int .i64 a, .int .i64 e, g] (mh h b d.toList) ⟨.tup [.int .i64 p, .int .i64 x], mh h b d.toList, []⟩ := by
  obtain ⟨x1, s1, w1, k1, m1, o1, c1⟩ := r274 (cap := cap) C hb (by omega) hc d hd (a + (e - a) / 4) (a + (e - a) / 4 * 2) (a + (e - a) / 4 * 3) 0 (by omega) (by omega) (by omega) (by omega)
  have hcc : CT M (fnM 274) [.sl b 0 n 3 cap, .int .i64 ((a : Int) + ((e : Int) - (a : Int)) / 4 * 1), .int .i64 ((a : Int) + ((e : Int) - (a : Int)) / 4 * 2), .int .i64 ((a : Int) + ((e : Int) - (a : Int)) / 4 * 3), .ptr (mh h b d.toList).length 0, g] (mh h b d.toList ++ [some (.cells [.int .i64 0] 3)]) ⟨.int .i64 x1, mh h b d.toList ++ [some (.cells [.int .i64 s1] 3)], w1⟩ := by
    rw [show ((a : Int) + ((e : Int) - (a : Int)) / 4 * 1) = ((a + (e - a) / 4 : Nat) : Int) by omega, show ((a : Int) + ((e : Int) - (a : Int)) / 4 * 2) = ((a + (e - a) / 4 * 2 : Nat) : Int) by omega, show ((a : Int) + ((e : Int) - (a : Int)) / 4 * 3) = ((a + (e - a) / 4 * 3 : Nat) : Int) by omega]
    exact c1
  obtain ⟨v, ⟨x, rfl⟩, hr⟩ := run_dropE (M := M) (h := mh h b d.toList) (ars := [.sl b 0 n 3 cap, .int .i64 a, .int .i64 e, g]) (P := fun v => ∃ x : Int, v = .tup [.int .i64 x1, .int .i64 x]) (by rw [C.ft]; exact ft234) (by simp) (by rintro v ⟨x, rfl⟩; rfl) (by
    unfold b234
    simp only [List.map_cons, List.map_nil, List.getElem?_cons_zero, List.getElem?_cons_succ, List.getElem?_nil, Option.getD_some, Option.getD_none]
    repeat' first | (apply WO.ldbp; exact rfl; exact at_new; exact rfl) | apply W.seq | apply SQn | apply W.region | apply WO.nil | apply W.block | apply W.ret | apply W.exit | apply W.skip | apply SQr | apply SQe | apply BQn | apply BQr | apply BQe | (apply BQo; exact rfl) | apply LQe | apply LQr | (apply W.condT; exact rfl) | (apply W.condF; exact rfl) | (apply W.cond; exact rfl; all_goals intro _) | (apply WO.geq; exact rfl; exact rfl; all_goals first | (intro _; exfalso; omega) | intro _) | (apply WO.eql; exact rfl; exact rfl; all_goals first | (intro _; exfalso; omega) | intro _) | (apply WO.add; exact rfl; exact rfl; omega) | (apply WO.sub; exact rfl; exact rfl; omega) | (apply WO.mul; exact rfl; exact rfl; omega) | (apply WO.quop; exact rfl; exact rfl; omega; omega; intro _ _) | (apply WO.quon; exact rfl; exact rfl; omega; omega; intro _ _) | (apply WO.quo; exact rfl; exact rfl; omega; omega) | (apply WO.ct; exact rfl; exact rfl; first | exact hcc) | (apply WO.ctn; exact rfl; exact rfl; first | exact hcc) | (apply WD.ct; exact rfl; exact rfl; exact rfl; first | exact hcc) | (apply WO.seql; exact rfl; exact rfl; all_goals first | (intro h; exact absurd h (by decide)) | (intro h; exact absurd rfl h) | (intro h; contradiction) | intro _) | (apply WO.clb; exact rfl; exact rfl; exact rfl; all_goals first | (intro h; exact absurd h (by decide)) | intro _) | (apply WO.cll; exact rfl; exact rfl; exact rfl) | (apply WO.hlv; exact rfl; exact rfl; exact rfl) | (apply WO.hpv; exact rfl; exact rfl; exact rfl) | (apply WO.hnv; exact rfl; exact rfl; exact rfl) | (apply WO.pl; exact rfl; exact rfl) | (apply WO.pp; exact rfl; exact rfl)
    all_goals exact ⟨.inr rfl, rfl, ⟨_, rfl⟩, fun y hy => Nat.le_of_eq (o1 y (by simpa using hy)).symm, _, rfl, _, rfl⟩)
  exact ⟨x1, x, by omega, by omega, CT.run (C.n234 _ _) (by simpa using hr)⟩
end Go.Ab.Ch1


/-
  Own work: the sort that is tried first, and the patterns broken.
-/
namespace Go.Ab.Ch1
open Go.Sort (swp PermIn)
variable {M : Mach} {h : Heap} {b n : Nat} {cap : Option Nat} {g : AV} {c : Mk → Mk → Int}

theorem loop236_0 (hb : b < h.length) (hn : n < 2305843009213693952) (hc : CmpM M g c) (d : Array Mk) (hd : d.size = n) (e : Nat) (he : e ≤ n) (a1 a4 a6 a7 a8 : AV) (wr : List Nat) {Q : Ex → StW → Prop} : ∀ (r i : Nat) (lo : List (Nat × AV)), e - i ≤ r → 1 ≤ i → i ≤ n →
    (∀ lo, Q (.exit 2) ⟨⟨[.sl b 0 n 3 cap, a1, .int .i64 e, g, a4, .int .i64 (Go.Sort.scanSorted (ltOf c) d e i), a6, a7, a8], lo, mh h b d.toList, []⟩, wr⟩) →
    W M (.loop b236_0) ⟨⟨[.sl b 0 n 3 cap, a1, .int .i64 e, g, a4, .int .i64 i, a6, a7, a8], lo, mh h b d.toList, []⟩, wr⟩ Q := by
  intro r
  induction r with
  | zero =>
    intro i lo hr h1 hi hQ
    have e' : Go.Sort.scanSorted (ltOf c) d e i = i := by rw [Go.Sort.scanSorted, if_neg (by simp; omega)]
    rw [e'] at hQ
    refine W.loop ?_
    unfold b236_0
    repeat' first | apply W.seq | apply SQn | apply W.region | apply WO.nil | apply W.block | apply W.ret | apply W.exit | apply W.skip | apply SQr | apply SQe | apply BQn | apply BQr | apply BQe | (apply BQo; exact rfl) | apply LQe | apply LQr | (apply W.drawro; exact rfl) | apply W.draw | apply WD.nil | (apply WD.gT; exact rfl) | (apply WD.gF; exact rfl) | (apply WD.sT; exact rfl) | (apply WD.sF; exact rfl) | (apply WD.sU; exact rfl) | (apply WD.pure1; exact rfl) | (apply WD.load1; exact rfl; exact rfl; exact rfl) | (apply WD.clb; exact rfl; exact rfl; exact rfl; exact rfl; all_goals first | (intro h; exact absurd h (by decide)) | intro _) | (apply WD.cl0; exact rfl; exact rfl; exact rfl; exact rfl) | (apply WD.cl1; exact rfl; exact rfl; exact rfl; exact rfl) | (apply W.condT; exact rfl) | (apply W.condF; exact rfl) | (apply W.cond; exact rfl; all_goals intro _) | (apply WO.gT; exact rfl) | (apply WO.gF; exact rfl) | (apply WO.sT; exact rfl) | (apply WO.sF; exact rfl) | (apply WO.sU; exact rfl) | (apply WO.lss; exact rfl; exact rfl; all_goals first | (intro _; exfalso; omega) | intro _) | (apply WO.pkT; exact rfl; exact rfl) | (apply WO.pkF; exact rfl; exact rfl) | (apply WO.add; exact rfl; exact rfl; omega) | (apply WO.sub; exact rfl; exact rfl; omega) | (apply WO.iav; exact rfl; exact rfl; omega) | (apply WO.ias; exact rfl; exact rfl; omega) | (apply WO.lda; exact rfl; exact fun _ => rfl; (first | omega | (simp only [List.length_set]; omega) | (simp; omega)); decide; exact rfl; case ia => infer_instance) | (apply WO.lsa; exact rfl; (first | exact rfl | assumption | exact at_new | (apply at_old; assumption) | (apply at_put; first | assumption | (simp only [put_length]; assumption))); exact fun _ => rfl; (first | omega | (simp only [List.length_set]; omega) | (simp; omega)); decide; exact rfl; case ia => infer_instance) | (apply WO.clb; exact rfl; exact rfl; exact rfl; all_goals first | (intro h; exact absurd h (by decide)) | intro _) | (apply WO.cll; exact rfl; exact rfl; exact rfl) | (apply WO.hlv; exact rfl; exact rfl; exact rfl) | (apply WO.hpv; exact rfl; exact rfl; exact rfl) | (apply WO.hnv; exact rfl; exact rfl; exact rfl) | (apply WO.pl; exact rfl; exact rfl) | (apply WO.pp; exact rfl; exact rfl)
    exact hQ _
  | succ r ih =>
    intro i lo hr h1 hi hQ
    have hl : d.toList.length = n := by simp [hd]
    have f1 : ((i : Int)).toNat = i := by omega
    have f2 : ((i : Int) - 1).toNat = i - 1 := by omega
    refine W.loop ?_
    unfold b236_0
    repeat' first | apply W.seq | apply SQn | apply W.region | apply WO.nil | apply W.block | apply W.ret | apply W.exit | apply W.skip | apply SQr | apply SQe | apply BQn | apply BQr | apply BQe | (apply BQo; exact rfl) | apply LQe | apply LQr | (apply W.drawro; exact rfl) | apply W.draw | apply WD.nil | (apply WD.gT; exact rfl) | (apply WD.gF; exact rfl) | (apply WD.sT; exact rfl) | (apply WD.sF; exact rfl) | (apply WD.sU; exact rfl) | (apply WD.pure1; exact rfl) | (apply WD.load1; exact rfl; exact rfl; exact rfl) | (apply WD.clb; exact rfl; exact rfl; exact rfl; exact rfl; all_goals first | (intro h; exact absurd h (by decide)) | intro _) | (apply WD.cl0; exact rfl; exact rfl; exact rfl; exact rfl) | (apply WD.cl1; exact rfl; exact rfl; exact rfl; exact rfl) | (apply W.condT; exact rfl) | (apply W.condF; exact rfl) | (apply W.cond; exact rfl; all_goals intro _) | (apply WO.gT; exact rfl) | (apply WO.gF; exact rfl) | (apply WO.sT; exact rfl) | (apply WO.sF; exact rfl) | (apply WO.sU; exact rfl) | (apply WO.lss; exact rfl; exact rfl; all_goals first | (intro _; exfalso; omega) | intro _) | (apply WO.pkT; exact rfl; exact rfl) | (apply WO.pkF; exact rfl; exact rfl) | (apply WO.add; exact rfl; exact rfl; omega) | (apply WO.sub; exact rfl; exact rfl; omega) | (apply WO.ct; exact rfl; exact rfl; first | exact hc _ _ _) | (apply WO.ctn; exact rfl; exact rfl; first | exact hc _ _ _) | (apply WD.ct; exact rfl; exact rfl; exact rfl; first | exact hc _ _ _) | (apply WO.iav; exact rfl; exact rfl; omega) | (apply WO.ias; exact rfl; exact rfl; omega) | (apply WO.lda; exact rfl; exact fun _ => rfl; (first | omega | (simp only [List.length_set]; omega) | (simp; omega)); decide; exact rfl; case ia => infer_instance) | (apply WO.lsa; exact rfl; (first | exact rfl | assumption | exact at_new | (apply at_old; assumption) | (apply at_put; first | assumption | (simp only [put_length]; assumption))); exact fun _ => rfl; (first | omega | (simp only [List.length_set]; omega) | (simp; omega)); decide; exact rfl; case ia => infer_instance) | (apply WO.clb; exact rfl; exact rfl; exact rfl; all_goals first | (intro h; exact absurd h (by decide)) | intro _) | (apply WO.cll; exact rfl; exact rfl; exact rfl) | (apply WO.hlv; exact rfl; exact rfl; exact rfl) | (apply WO.hpv; exact rfl; exact rfl; exact rfl) | (apply WO.hnv; exact rfl; exact rfl; exact rfl) | (apply WO.pl; exact rfl; exact rfl) | (apply WO.pp; exact rfl; exact rfl)
    · rename_i g1 g2
      simp only [f1, f2, at_list] at g2
      have e' : Go.Sort.scanSorted (ltOf c) d e i = i := by rw [Go.Sort.scanSorted, if_neg (by simp only [lt_t g2]; simp)]
      rw [e'] at hQ
      exact hQ _
    · rename_i g1 g2
      simp only [f1, f2, at_list] at g2
      have e' : Go.Sort.scanSorted (ltOf c) d e i = Go.Sort.scanSorted (ltOf c) d e (i + 1) := by
        rw [Go.Sort.scanSorted, if_pos (by rw [decide_eq_true (show i < e by omega)]; simp only [lt_f (Int.not_lt.2 g2), Bool.true_and, Bool.not_false])]
      rw [e'] at hQ
      exact LQn (ih (i + 1) _ (by omega) (by omega) (by omega) hQ)
    · have e' : Go.Sort.scanSorted (ltOf c) d e i = i := by rw [Go.Sort.scanSorted, if_neg (by simp; omega)]
      rw [e'] at hQ
      exact hQ _
/-- Of fewer than fifty marks nothing is moved. -/
theorem partial_few (d : Array Mk) (a e : Nat) (hae : e - a < 50) : Go.Sort.partialInsertionSort (ltOf c) d a e = (d, decide (Go.Sort.scanSorted (ltOf c) d e (a + 1) = e)) := by
  unfold Go.Sort.partialInsertionSort
  rw [Go.Sort.partialIns]
  simp only []
  split
  · rename_i h1; rw [decide_eq_true h1]
  · rename_i h1; rw [decide_eq_false h1]
theorem r236 (C : CPd M) (hb : b < h.length) (hn : n < 50) (hc : CmpM M g c) (d : Array Mk) (hd : d.size = n) (a e : Nat) (ha : a < e) (he : e ≤ n) :
    CT M (fnM 236) [.sl b 0 n 3 cap, .int .i64 a, .int .i64 e, g] (mh h b d.toList) ⟨.bool (Go.Sort.partialInsertionSort (ltOf c) d a e).2, mh h b d.toList, []⟩ := by
  rw [partial_few d a e (by omega)]
  refine CT.run (C.n236 _ _) (run_same (by rw [C.ft]; exact ft236) (by simp) ?_)
  simp only [List.nil_append, List.append_nil]
  unfold b236
  simp only [List.map_cons, List.map_nil, List.getElem?_cons_zero, List.getElem?_cons_succ, List.getElem?_nil, Option.getD_some, Option.getD_none]
  repeat' first | apply W.seq | apply SQn | apply W.region | apply WO.nil | apply W.block | apply W.ret | apply W.exit | apply W.skip | apply SQr | apply SQe | apply BQn | apply BQr | apply BQe | (apply BQo; exact rfl) | apply LQe | apply LQr | (apply W.drawro; exact rfl) | apply W.draw | apply WD.nil | (apply WD.gT; exact rfl) | (apply WD.gF; exact rfl) | (apply WD.sT; exact rfl) | (apply WD.sF; exact rfl) | (apply WD.sU; exact rfl) | (apply WD.pure1; exact rfl) | (apply WD.load1; exact rfl; exact rfl; exact rfl) | (apply WD.store1; exact rfl; exact rfl; exact rfl) | (apply W.condT; exact rfl) | (apply W.condF; exact rfl) | (apply W.cond; exact rfl; all_goals intro _) | (apply WO.lss; exact rfl; exact rfl; all_goals first | (intro _; exfalso; omega) | intro _) | (apply WO.geq; exact rfl; exact rfl; all_goals first | (intro _; exfalso; omega) | intro _) | (apply WO.eql; exact rfl; exact rfl; all_goals first | (intro _; exfalso; omega) | intro _) | (apply WO.add; exact rfl; exact rfl; omega) | (apply WO.sub; exact rfl; exact rfl; omega) | (apply WO.iav; exact rfl; exact rfl; omega) | (apply WO.ias; exact rfl; exact rfl; omega) | (apply WO.lda; exact rfl; exact fun _ => rfl; (first | omega | (simp only [List.length_set]; omega) | (simp; omega)); decide; exact rfl; case ia => infer_instance) | (apply WO.lsa; exact rfl; (first | exact rfl | assumption | exact at_new | (apply at_old; assumption) | (apply at_put; first | assumption | (simp only [put_length]; assumption))); exact fun _ => rfl; (first | omega | (simp only [List.length_set]; omega) | (simp; omega)); decide; exact rfl; case ia => infer_instance) | (apply WO.sta; exact rfl; exact rfl; (first | exact rfl | assumption | exact at_new | (apply at_old; assumption) | (apply at_put; first | assumption | (simp only [put_length]; assumption))); exact fun _ => rfl; (first | omega | (simp only [List.length_set]; omega) | (simp; omega)); exact ⟨rfl, by decide, rfl⟩; exact rfl; case ia => infer_instance) | (apply WO.seql; exact rfl; exact rfl; all_goals first | (intro h; exact absurd h (by decide)) | (intro h; exact absurd rfl h) | (intro h; contradiction) | intro _) | (apply WO.hlv; exact rfl; exact rfl; exact rfl) | (apply WO.hpv; exact rfl; exact rfl; exact rfl) | (apply WO.hnv; exact rfl; exact rfl; exact rfl) | (apply WO.pl; exact rfl; exact rfl) | (apply WO.pp; exact rfl; exact rfl)
  refine W.loop ?_
  unfold b236_3
  repeat' first | apply W.seq | apply SQn | apply W.region | apply WO.nil | apply W.block | apply W.ret | apply W.exit | apply W.skip | apply SQr | apply SQe | apply BQn | apply BQr | apply BQe | (apply BQo; exact rfl) | apply LQe | apply LQr | (apply W.drawro; exact rfl) | apply W.draw | apply WD.nil | (apply WD.gT; exact rfl) | (apply WD.gF; exact rfl) | (apply WD.sT; exact rfl) | (apply WD.sF; exact rfl) | (apply WD.sU; exact rfl) | (apply WD.pure1; exact rfl) | (apply WD.load1; exact rfl; exact rfl; exact rfl) | (apply WD.store1; exact rfl; exact rfl; exact rfl) | (apply W.condT; exact rfl) | (apply W.condF; exact rfl) | (apply W.cond; exact rfl; all_goals intro _) | (apply WO.lss; exact rfl; exact rfl; all_goals first | (intro _; exfalso; omega) | intro _) | (apply WO.geq; exact rfl; exact rfl; all_goals first | (intro _; exfalso; omega) | intro _) | (apply WO.eql; exact rfl; exact rfl; all_goals first | (intro _; exfalso; omega) | intro _) | (apply WO.add; exact rfl; exact rfl; omega) | (apply WO.sub; exact rfl; exact rfl; omega) | (apply WO.iav; exact rfl; exact rfl; omega) | (apply WO.ias; exact rfl; exact rfl; omega) | (apply WO.lda; exact rfl; exact fun _ => rfl; (first | omega | (simp only [List.length_set]; omega) | (simp; omega)); decide; exact rfl; case ia => infer_instance) | (apply WO.lsa; exact rfl; (first | exact rfl | assumption | exact at_new | (apply at_old; assumption) | (apply at_put; first | assumption | (simp only [put_length]; assumption))); exact fun _ => rfl; (first | omega | (simp only [List.length_set]; omega) | (simp; omega)); decide; exact rfl; case ia => infer_instance) | (apply WO.sta; exact rfl; exact rfl; (first | exact rfl | assumption | exact at_new | (apply at_old; assumption) | (apply at_put; first | assumption | (simp only [put_length]; assumption))); exact fun _ => rfl; (first | omega | (simp only [List.length_set]; omega) | (simp; omega)); exact ⟨rfl, by decide, rfl⟩; exact rfl; case ia => infer_instance) | (apply WO.seql; exact rfl; exact rfl; all_goals first | (intro h; exact absurd h (by decide)) | (intro h; exact absurd rfl h) | (intro h; contradiction) | intro _) | (apply WO.hlv; exact rfl; exact rfl; exact rfl) | (apply WO.hpv; exact rfl; exact rfl; exact rfl) | (apply WO.hnv; exact rfl; exact rfl; exact rfl) | (apply WO.pl; exact rfl; exact rfl) | (apply WO.pp; exact rfl; exact rfl)
  rw [show ((a : Int) + 1) = ((a + 1 : Nat) : Int) by omega]
  refine loop236_0 hb (by omega) hc d hd e he _ _ _ _ _ _ _ (a + 1) _ (Nat.le_refl _) (by omega) (by omega) (fun lo => ?_)
  repeat' first | apply W.seq | apply SQn | apply W.region | apply WO.nil | apply W.block | apply W.ret | apply W.exit | apply W.skip | apply SQr | apply SQe | apply BQn | apply BQr | apply BQe | (apply BQo; exact rfl) | apply LQe | apply LQr | (apply W.drawro; exact rfl) | apply W.draw | apply WD.nil | (apply WD.gT; exact rfl) | (apply WD.gF; exact rfl) | (apply WD.sT; exact rfl) | (apply WD.sF; exact rfl) | (apply WD.sU; exact rfl) | (apply WD.pure1; exact rfl) | (apply WD.load1; exact rfl; exact rfl; exact rfl) | (apply WD.store1; exact rfl; exact rfl; exact rfl) | (apply W.condT; exact rfl) | (apply W.condF; exact rfl) | (apply W.cond; exact rfl; all_goals intro _) | (apply WO.lss; exact rfl; exact rfl; all_goals first | (intro _; exfalso; omega) | intro _) | (apply WO.geq; exact rfl; exact rfl; all_goals first | (intro _; exfalso; omega) | intro _) | (apply WO.eql; exact rfl; exact rfl; all_goals first | (intro _; exfalso; omega) | intro _) | (apply WO.add; exact rfl; exact rfl; omega) | (apply WO.sub; exact rfl; exact rfl; omega) | (apply WO.iav; exact rfl; exact rfl; omega) | (apply WO.ias; exact rfl; exact rfl; omega) | (apply WO.lda; exact rfl; exact fun _ => rfl; (first | omega | (simp only [List.length_set]; omega) | (simp; omega)); decide; exact rfl; case ia => infer_instance) | (apply WO.lsa; exact rfl; (first | exact rfl | assumption | exact at_new | (apply at_old; assumption) | (apply at_put; first | assumption | (simp only [put_length]; assumption))); exact fun _ => rfl; (first | omega | (simp only [List.length_set]; omega) | (simp; omega)); decide; exact rfl; case ia => infer_instance) | (apply WO.sta; exact rfl; exact rfl; (first | exact rfl | assumption | exact at_new | (apply at_old; assumption) | (apply at_put; first | assumption | (simp only [put_length]; assumption))); exact fun _ => rfl; (first | omega | (simp only [List.length_set]; omega) | (simp; omega)); exact ⟨rfl, by decide, rfl⟩; exact rfl; case ia => infer_instance) | (apply WO.seql; exact rfl; exact rfl; all_goals first | (intro h; exact absurd h (by decide)) | (intro h; exact absurd rfl h) | (intro h; contradiction) | intro _) | (apply WO.hlv; exact rfl; exact rfl; exact rfl) | (apply WO.hpv; exact rfl; exact rfl; exact rfl) | (apply WO.hnv; exact rfl; exact rfl; exact rfl) | (apply WO.pl; exact rfl; exact rfl) | (apply WO.pp; exact rfl; exact rfl)
  · rename_i g1
    rw [decide_eq_true (show Go.Sort.scanSorted (ltOf c) d e (a + 1) = e by omega)]
    exact ⟨.inr rfl, rfl, rfl, rfl, _, rfl, rfl⟩
  · rename_i g1
    rw [decide_eq_false (show ¬ Go.Sort.scanSorted (ltOf c) d e (a + 1) = e by omega)]
    exact ⟨.inr rfl, rfl, rfl, rfl, _, rfl, rfl⟩
end Go.Ab.Ch1


/-
  Own work: the patterns of marks broken.
-/
namespace Go.Ab.Ch1
open Go.Sort (swp PermIn)
variable {M : Mach} {h : Heap} {b n : Nat} {cap : Option Nat} {g : AV} {c : Mk → Mk → Int}

def lenTab : List UInt8 := [0, 1, 2, 2, 3, 3, 3, 3, 4, 4, 4, 4, 4, 4, 4, 4, 5, 5, 5, 5, 5, 5, 5, 5, 5, 5, 5, 5, 5, 5, 5, 5, 6, 6, 6, 6, 6, 6, 6, 6, 6, 6, 6, 6, 6, 6, 6, 6, 6, 6, 6, 6, 6, 6, 6, 6, 6, 6, 6, 6, 6, 6, 6, 6, 7, 7, 7, 7, 7, 7, 7, 7, 7, 7, 7, 7, 7, 7, 7, 7, 7, 7, 7, 7, 7, 7, 7, 7, 7, 7, 7, 7, 7, 7, 7, 7, 7, 7, 7, 7, 7, 7, 7, 7, 7, 7, 7, 7, 7, 7, 7, 7, 7, 7, 7, 7, 7, 7, 7, 7, 7, 7, 7, 7, 7, 7, 7, 7, 8, 8, 8, 8, 8, 8, 8, 8, 8, 8, 8, 8, 8, 8, 8, 8, 8, 8, 8, 8, 8, 8, 8, 8, 8, 8, 8, 8, 8, 8, 8, 8, 8, 8, 8, 8, 8, 8, 8, 8, 8, 8, 8, 8, 8, 8, 8, 8, 8, 8, 8, 8, 8, 8, 8, 8, 8, 8, 8, 8, 8, 8, 8, 8, 8, 8, 8, 8, 8, 8, 8, 8, 8, 8, 8, 8, 8, 8, 8, 8, 8, 8, 8, 8, 8, 8, 8, 8, 8, 8, 8, 8, 8, 8, 8, 8, 8, 8, 8, 8, 8, 8, 8, 8, 8, 8, 8, 8, 8, 8, 8, 8, 8, 8, 8, 8, 8, 8, 8, 8, 8, 8, 8, 8, 8, 8, 8, 8]
set_option maxRecDepth 10000 in
theorem lenTab_ok : ∀ k, k < 64 → 1 ≤ k → 2 ^ (lenTab[k]!).toNat ≤ 2 * k ∧ (lenTab[k]!).toNat < 64 := by decide
set_option maxRecDepth 10000 in
theorem r240x (C : CPq M) (m : Nat) (h1 : 1 ≤ m) (hm : m < 64) (hp : Heap) : ∃ L : Nat, 2 ^ L ≤ 2 * m ∧ L < 64 ∧ CT M (fnM 240) [.int .u64 m] hp ⟨.int .i64 L, hp, []⟩ := by
  obtain ⟨k1, k2⟩ := lenTab_ok m hm h1
  have f1 : ((m : Int)).toNat = m := by omega
  refine ⟨_, k1, k2, CT.run (C.n240 _ _) (run_same (by rw [C.ft]; exact ft240) (by simp) ?_)⟩
  simp only [List.nil_append, List.append_nil]
  simp only [List.map_cons, List.map_nil, List.getElem?_cons_zero, List.getElem?_cons_succ, List.getElem?_nil, Option.getD_some, Option.getD_none]
  unfold b240
  repeat' first | (apply WO.idx (s := lenTab); exact rfl; exact rfl; exact ⟨by omega, Int.lt_of_lt_of_le (b := 256) (by omega) (Int.ofNat_le.2 (Nat.le_of_eq rfl))⟩) | (apply WO.cv8; exact rfl; omega) | apply W.seq | apply SQn | apply W.region | apply WO.nil | apply W.block | apply W.ret | apply W.exit | apply W.skip | apply SQr | apply SQe | apply BQn | apply BQr | apply BQe | (apply BQo; exact rfl) | apply LQe | apply LQr | (apply W.condT; exact rfl) | (apply W.condF; exact rfl) | (apply W.cond; exact rfl; all_goals intro _) | (apply WO.geq; exact rfl; exact rfl; all_goals first | (intro _; exfalso; omega) | intro _) | (apply WO.cvi; exact rfl; omega) | (apply WO.shr1; exact rfl) | (apply WO.add; exact rfl; exact rfl; omega) | (apply WO.idx; exact rfl; exact rfl; omega) | (apply WO.pl; exact rfl; exact rfl) | (apply WO.pp; exact rfl; exact rfl)
  rw [f1, i64_wrap (n := ((lenTab[m]!).toNat : Int)) (by omega), Int.zero_add, i64_wrap (by omega)]
  exact ⟨.inr rfl, rfl, rfl, rfl, _, rfl, rfl⟩
theorem r191x (C : CPq M) (m : Nat) (h1 : 1 ≤ m) (hm : m < 64) (hp : Heap) : ∃ L : Nat, 2 ^ L ≤ 2 * m ∧ L < 64 ∧ CT M (fnM 191) [.int .u64 m] hp ⟨.int .i64 L, hp, []⟩ := by
  obtain ⟨r, hr, hr2, hc⟩ := r240x C m h1 hm hp
  refine ⟨r, hr, hr2, CT.run (C.n191 _ _) (run_same (by rw [C.ft]; exact ft191) (by simp) ?_)⟩
  simp only [List.nil_append, List.append_nil]
  unfold b191
  simp only [List.map_cons, List.map_nil, List.getElem?_cons_zero, List.getElem?_cons_succ, List.getElem?_nil, Option.getD_some, Option.getD_none]
  repeat' first | apply W.seq | apply SQn | apply W.region | apply WO.nil | apply W.block | apply W.ret | apply W.exit | apply W.skip | apply SQr | apply SQe | apply BQn | apply BQr | apply BQe | (apply BQo; exact rfl) | apply LQe | apply LQr | (apply W.condT; exact rfl) | (apply W.condF; exact rfl) | (apply W.cond; exact rfl; all_goals intro _) | (apply WO.ct; exact rfl; exact rfl; first | exact hc) | (apply WO.ctn; exact rfl; exact rfl; first | exact hc) | (apply WD.ct; exact rfl; exact rfl; exact rfl; first | exact hc) | (apply WO.clb; exact rfl; exact rfl; exact rfl; all_goals first | (intro h; exact absurd h (by decide)) | intro _) | (apply WO.cll; exact rfl; exact rfl; exact rfl) | (apply WO.pl; exact rfl; exact rfl) | (apply WO.pp; exact rfl; exact rfl)
  exact ⟨.inr rfl, rfl, rfl, rfl, _, rfl, rfl⟩
theorem r271 (C : CPd M) (m : Nat) (h1 : 1 ≤ m) (hm : m < 64) (hp : Heap) : ∃ P : Int, 1 ≤ P ∧ P ≤ 2 * m ∧ CT M (fnM 271) [.int .i64 m] hp ⟨.int .u64 P, hp, []⟩ := by
  obtain ⟨L, k1, k2, hc⟩ := r191x C.toCPq m h1 hm hp
  have k3 : (1 : Int) * 2 ^ L = ((2 ^ L : Nat) : Int) := by rw [Int.one_mul]; norm_cast
  have k4 : 1 ≤ 2 ^ L := Nat.one_le_two_pow
  refine ⟨1 * 2 ^ L, by omega, by omega, CT.run (C.n271 _ _) (run_same (by rw [C.ft]; exact ft271) (by simp) ?_)⟩
  simp only [List.nil_append, List.append_nil]
  unfold b271
  simp only [List.map_cons, List.map_nil, List.getElem?_cons_zero, List.getElem?_cons_succ, List.getElem?_nil, Option.getD_some, Option.getD_none]
  repeat' first | (apply WO.shlu; exact rfl; exact rfl; omega; omega) | apply W.seq | apply SQn | apply W.region | apply WO.nil | apply W.block | apply W.ret | apply W.exit | apply W.skip | apply SQr | apply SQe | apply BQn | apply BQr | apply BQe | (apply BQo; exact rfl) | apply LQe | apply LQr | (apply W.condT; exact rfl) | (apply W.condF; exact rfl) | (apply W.cond; exact rfl; all_goals intro _) | (apply WO.cvu; exact rfl; omega) | (apply WO.ct; exact rfl; exact rfl; first | exact hc) | (apply WO.ctn; exact rfl; exact rfl; first | exact hc) | (apply WD.ct; exact rfl; exact rfl; exact rfl; first | exact hc) | (apply WO.clb; exact rfl; exact rfl; exact rfl; all_goals first | (intro h; exact absurd h (by decide)) | intro _) | (apply WO.cll; exact rfl; exact rfl; exact rfl) | (apply WO.pl; exact rfl; exact rfl) | (apply WO.pp; exact rfl; exact rfl)
  exact ⟨.inr rfl, rfl, rfl, rfl, _, rfl, rfl⟩
theorem r272 (C : CPd M) (K : Heap) (bx : Nat) (hbx : bx = K.length) (r : Int) : ∃ (r' : Int) (wr : List Nat), Only bx wr ∧ CT M (fnM 272) [.ptr bx 0] (K ++ [some (.cells [.int .u64 r] 273)]) ⟨.int .u64 r', K ++ [some (.cells [.int .u64 r'] 273)], wr⟩ := by
  subst hbx
  obtain ⟨v, x, wr, ⟨r', rfl, rfl⟩, hw, hct⟩ := run_bx (M := M) (h := K) (x0 := .int .u64 r) (e := 273) (f := 272) (ars := [.ptr K.length 0]) (P := fun v x => ∃ r' : Int, v = .int .u64 r' ∧ x = .int .u64 r') (by rw [C.ft]; exact ft272) (by simp) C.n272 (by rintro v x ⟨_, rfl, rfl⟩; exact ⟨rfl, rfl⟩) (by
    have hlt : K.length < (K ++ [some (Blk.cells [.int .u64 r] 273)]).length := by simp
    unfold b272
    simp only [List.map_cons, List.map_nil, List.getElem?_cons_zero, List.getElem?_cons_succ, List.getElem?_nil, Option.getD_some, Option.getD_none]
    repeat' first | (apply WO.stw; exact rfl; exact rfl; (first | exact at_new | (apply at_put; first | assumption | (simp only [put_length]; assumption))); exact ⟨rfl, rfl, rfl⟩) | (apply WO.ldb; exact rfl; (first | exact at_new | (apply at_put; first | assumption | (simp only [put_length]; assumption))); exact rfl) | apply W.seq | apply SQn | apply W.region | apply WO.nil | apply W.block | apply W.ret | apply W.exit | apply W.skip | apply SQr | apply SQe | apply BQn | apply BQr | apply BQe | (apply BQo; exact rfl) | apply LQe | apply LQr | (apply W.drawro; exact rfl) | apply W.draw | apply WD.nil | (apply WD.gT; exact rfl) | (apply WD.gF; exact rfl) | (apply WD.sT; exact rfl) | (apply WD.sF; exact rfl) | (apply WD.sU; exact rfl) | (apply WD.pure1; exact rfl) | (apply WD.load1; exact rfl; exact rfl; exact rfl) | (apply WD.store1; exact rfl; exact rfl; exact rfl) | (apply W.condT; exact rfl) | (apply W.condF; exact rfl) | (apply W.cond; exact rfl; all_goals intro _) | (apply WO.shr1; exact rfl) | (apply WO.hlv; exact rfl; exact rfl; exact rfl) | (apply WO.hpv; exact rfl; exact rfl; exact rfl) | (apply WO.hnv; exact rfl; exact rfl; exact rfl) | (apply WO.pl; exact rfl; exact rfl) | (apply WO.pp; exact rfl; exact rfl)
    refine ⟨.inr rfl, rfl, _, ?_, (OnlyN.nil).cons.cons.cons, _, rfl, _, rfl, rfl⟩
    show Heap.put (Heap.put (Heap.put _ _ _) _ _) _ _ = _
    rw [put_put, put_put, put_new])
  exact ⟨r', wr, hw, hct⟩
theorem put_app {h l : Heap} {b : Nat} {x : Option Blk} (hb : b < h.length) : (h ++ l).put b x = h.put b x ++ l := by
  simp only [Heap.put]; rw [List.set_append_left _ _ hb]
theorem swp_perm {d0 d : Array Mk} {a e i j : Nat} (h : PermIn a e d0 d) (h1 : a ≤ i) (h2 : i < e) (h3 : a ≤ j) (h4 : j < e) (h5 : e ≤ d.size) : PermIn a e d0 (swp d i j) :=
  Go.Sort.permIn_trans _ _ _ a e h (Go.Sort.swp_permIn d a e i j h1 h2 h3 h4 h5)

set_option maxHeartbeats 1000000 in
theorem loop233 (C : CPd M) (hb : b < h.length) (hn : n < 50) (d0 : Array Mk) (a e : Nat) (hae : a + 8 ≤ e) (he : e ≤ n) (P : Int) (hP : 1 ≤ P) (hP2 : P ≤ 2 * ((e - a : Nat) : Int)) (a2 : AV) {Q : Ex → StW → Prop} : ∀ (r idx : Nat) (d : Array Mk) (rnd : Int) (a8 : AV) (lo : List (Nat × AV)) (wr : List Nat), (a + (e - a) / 4 * 2 + 2) - idx ≤ r → a ≤ idx → idx ≤ n → d.size = n → PermIn a e d0 d → OnlyN b h.length wr →
    (∀ d' x y rnd' lo wr, PermIn a e d0 d' → OnlyN b h.length wr → Q (.exit 0) ⟨⟨[.sl b 0 n 3 cap, .int .i64 a, a2, g, .int .i64 (e - a : Nat), .ptr h.length 0, .int .u64 P, x, y], lo, mh h b d'.toList ++ [some (.cells [.int .u64 rnd'] 273)], []⟩, wr⟩) →
    W M (.loop b233_0) ⟨⟨[.sl b 0 n 3 cap, .int .i64 a, a2, g, .int .i64 (e - a : Nat), .ptr h.length 0, .int .u64 P, .int .i64 idx, a8], lo, mh h b d.toList ++ [some (.cells [.int .u64 rnd] 273)], []⟩, wr⟩ Q := by
  intro r
  induction r with
  | zero =>
    intro idx d rnd a8 lo wr hr h1 h2 hd hp hw hQ
    refine W.loop ?_
    unfold b233_0
    repeat' first | apply W.seq | apply SQn | apply W.region | apply WO.nil | apply W.block | apply W.ret | apply W.exit | apply W.skip | apply SQr | apply SQe | apply BQn | apply BQr | apply BQe | (apply BQo; exact rfl) | apply LQe | apply LQr | (apply W.drawro; exact rfl) | apply W.draw | apply WD.nil | (apply WD.gT; exact rfl) | (apply WD.gF; exact rfl) | (apply WD.sT; exact rfl) | (apply WD.sF; exact rfl) | (apply WD.sU; exact rfl) | (apply WD.pure1; exact rfl) | (apply WD.load1; exact rfl; exact rfl; exact rfl) | (apply WD.store1; exact rfl; exact rfl; exact rfl) | (apply WD.clb; exact rfl; exact rfl; exact rfl; exact rfl; all_goals first | (intro h; exact absurd h (by decide)) | intro _) | (apply WD.cl0; exact rfl; exact rfl; exact rfl; exact rfl) | (apply WD.cl1; exact rfl; exact rfl; exact rfl; exact rfl) | (apply W.condT; exact rfl) | (apply W.condF; exact rfl) | (apply W.cond; exact rfl; all_goals intro _) | (apply WO.leq; exact rfl; exact rfl; all_goals first | (intro _; exfalso; omega) | intro _) | (apply WO.geq; exact rfl; exact rfl; all_goals first | (intro _; exfalso; omega) | intro _) | (apply WO.cvi; exact rfl; omega) | (apply WO.add; exact rfl; exact rfl; omega) | (apply WO.sub; exact rfl; exact rfl; omega) | (apply WO.mul; exact rfl; exact rfl; omega) | (apply WO.quop; exact rfl; exact rfl; omega; omega; intro _ _) | (apply WO.quon; exact rfl; exact rfl; omega; omega; intro _ _) | (apply WO.quo; exact rfl; exact rfl; omega; omega) | (apply WO.iav; exact rfl; exact rfl; omega) | (apply WO.ias; exact rfl; exact rfl; omega) | (apply WO.lda; exact rfl; exact fun _ => rfl; (first | omega | (simp only [List.length_set]; omega) | (simp; omega)); decide; exact rfl; case ia => infer_instance) | (apply WO.lsa; exact rfl; (first | exact rfl | assumption | exact at_new | (apply at_old; assumption) | (apply at_put; first | assumption | (simp only [put_length]; assumption))); exact fun _ => rfl; (first | omega | (simp only [List.length_set]; omega) | (simp; omega)); decide; exact rfl; case ia => infer_instance) | (apply WO.sta; exact rfl; exact rfl; (first | exact rfl | assumption | exact at_new | (apply at_old; assumption) | (apply at_put; first | assumption | (simp only [put_length]; assumption))); exact fun _ => rfl; (first | omega | (simp only [List.length_set]; omega) | (simp; omega)); exact ⟨rfl, by decide, rfl⟩; exact rfl; case ia => infer_instance) | (apply WO.clb; exact rfl; exact rfl; exact rfl; all_goals first | (intro h; exact absurd h (by decide)) | intro _) | (apply WO.cll; exact rfl; exact rfl; exact rfl) | (apply WO.hlv; exact rfl; exact rfl; exact rfl) | (apply WO.hpv; exact rfl; exact rfl; exact rfl) | (apply WO.hnv; exact rfl; exact rfl; exact rfl) | (apply WO.pl; exact rfl; exact rfl) | (apply WO.pp; exact rfl; exact rfl)
    exact hQ _ _ _ _ _ _ hp hw
  | succ r ih =>
    intro idx d rnd a8 lo wr hr h1 h2 hd hp hw hQ
    obtain ⟨rnd', wr', hw', hcc⟩ := r272 C (mh h b d.toList) h.length put_length.symm rnd
    have hl : d.toList.length = n := by simp [hd]
    have hat : Heap.at (mh h b d.toList ++ [some (.cells [.int .u64 rnd'] 273)]) b = some (.cells (arr cm d.toList) 49) := at_old (at_put hb)
    have hlen : b < (mh h b d.toList ++ [some (Blk.cells [.int .u64 rnd'] 273)]).length := by simp [put_length]; omega
    have hbm : ∀ l : List Mk, b < (mh h b l).length := fun l => by simp [put_length]; exact hb
    have f1 : ((idx : Int)).toNat = idx := by omega
    have hwn : OnlyN b h.length wr' := fun x hx => .inr (Nat.le_of_eq (hw' x hx).symm)
    refine W.loop ?_
    unfold b233_0
    repeat' first | (apply WO.subu; exact rfl; exact rfl; omega) | (apply WO.andu; exact rfl; exact rfl; omega; intro _ _ _) | apply W.seq | apply SQn | apply W.region | apply WO.nil | apply W.block | apply W.ret | apply W.exit | apply W.skip | apply SQr | apply SQe | apply BQn | apply BQr | apply BQe | (apply BQo; exact rfl) | apply LQe | apply LQr | (apply W.drawro; exact rfl) | apply W.draw | apply WD.nil | (apply WD.gT; exact rfl) | (apply WD.gF; exact rfl) | (apply WD.sT; exact rfl) | (apply WD.sF; exact rfl) | (apply WD.sU; exact rfl) | (apply WD.pure1; exact rfl) | (apply WD.load1; exact rfl; exact rfl; exact rfl) | (apply WD.store1; exact rfl; exact rfl; exact rfl) | (apply WD.clb; exact rfl; exact rfl; exact rfl; exact rfl; all_goals first | (intro h; exact absurd h (by decide)) | intro _) | (apply WD.cl0; exact rfl; exact rfl; exact rfl; exact rfl) | (apply WD.cl1; exact rfl; exact rfl; exact rfl; exact rfl) | (apply W.condT; exact rfl) | (apply W.condF; exact rfl) | (apply W.cond; exact rfl; all_goals intro _) | (apply WO.leq; exact rfl; exact rfl; all_goals first | (intro _; exfalso; omega) | intro _) | (apply WO.geq; exact rfl; exact rfl; all_goals first | (intro _; exfalso; omega) | intro _) | (apply WO.cvi; exact rfl; omega) | (apply WO.add; exact rfl; exact rfl; omega) | (apply WO.sub; exact rfl; exact rfl; omega) | (apply WO.mul; exact rfl; exact rfl; omega) | (apply WO.quop; exact rfl; exact rfl; omega; omega; intro _ _) | (apply WO.quon; exact rfl; exact rfl; omega; omega; intro _ _) | (apply WO.quo; exact rfl; exact rfl; omega; omega) | (apply WO.ct; exact rfl; exact rfl; first | exact hcc) | (apply WO.ctn; exact rfl; exact rfl; first | exact hcc) | (apply WD.ct; exact rfl; exact rfl; exact rfl; first | exact hcc) | (apply WO.iav; exact rfl; exact rfl; omega) | (apply WO.ias; exact rfl; exact rfl; omega) | (apply WO.lda; exact rfl; exact fun _ => rfl; (first | omega | (simp only [List.length_set]; omega) | (simp; omega)); decide; exact rfl; case ia => infer_instance) | (apply WO.lsa; exact rfl; (first | exact rfl | assumption | exact at_new | (apply at_old; assumption) | (apply at_put; first | assumption | (simp only [put_length]; assumption))); exact fun _ => rfl; (first | omega | (simp only [List.length_set]; omega) | (simp; omega)); decide; exact rfl; case ia => infer_instance) | (apply WO.sta; exact rfl; exact rfl; (first | exact rfl | assumption | exact at_new | (apply at_old; assumption) | (apply at_put; first | assumption | (simp only [put_length]; assumption))); exact fun _ => rfl; (first | omega | (simp only [List.length_set]; omega) | (simp; omega)); exact ⟨rfl, by decide, rfl⟩; exact rfl; case ia => infer_instance) | (apply WO.clb; exact rfl; exact rfl; exact rfl; all_goals first | (intro h; exact absurd h (by decide)) | intro _) | (apply WO.cll; exact rfl; exact rfl; exact rfl) | (apply WO.hlv; exact rfl; exact rfl; exact rfl) | (apply WO.hpv; exact rfl; exact rfl; exact rfl) | (apply WO.hnv; exact rfl; exact rfl; exact rfl) | (apply WO.pl; exact rfl; exact rfl) | (apply WO.pp; exact rfl; exact rfl)
    · rename_i o k1 k2 k3
      refine LQn ?_
      rw [put_app (hbm _), put_app (by rw [put_length]; exact hbm _), put_put, put_put, f1, show ((a : Int) + (o - ((e - a : Nat) : Int))).toNat = a + (o - ((e - a : Nat) : Int)).toNat by omega, ← swp_list]
      exact ih (idx + 1) _ rnd' _ _ _ (by omega) (by omega) (by omega) (by rw [swp_len, hd]) (swp_perm hp h1 (by omega) (by omega) (by omega) (by omega)) (hwn.app hw).cons.cons hQ
    · rename_i o k1 k2 k3
      refine LQn ?_
      rw [put_app (hbm _), put_app (by rw [put_length]; exact hbm _), put_put, put_put, f1, show ((a : Int) + o).toNat = a + o.toNat by omega, ← swp_list]
      exact ih (idx + 1) _ rnd' _ _ _ (by omega) (by omega) (by omega) (by rw [swp_len, hd]) (swp_perm hp h1 (by omega) (by omega) (by omega) (by omega)) (hwn.app hw).cons.cons hQ
    · exact hQ _ _ _ _ _ _ hp hw
theorem r233 (C : CPd M) (hb : b < h.length) (hn : n < 50) (d : Array Mk) (hd : d.size = n) (a e : Nat) (hae : a + 8 ≤ e) (he : e ≤ n) :
    ∃ d' wr, PermIn a e d d' ∧ Only b wr ∧ CT M (fnM 233) [.sl b 0 n 3 cap, .int .i64 a, .int .i64 e, g] (mh h b d.toList) ⟨.tup [], mh h b d'.toList, wr⟩ := by
  obtain ⟨v, l', wr, ⟨rfl, d', rfl, hp⟩, hw, hct⟩ := run_mhE (M := M) (h := h) (b := b) (l := d.toList) (f := 233) (ars := [.sl b 0 n 3 cap, .int .i64 a, .int .i64 e, g]) (P := fun v l' => v = .tup [] ∧ ∃ d' : Array Mk, l' = d'.toList ∧ PermIn a e d d') (by rw [C.ft]; exact ft233) (by simp) C.n233 hb (by rintro v l ⟨rfl, _⟩; rfl) (by
    obtain ⟨P, hP, hP2, hcc⟩ := r271 C (e - a) (by omega) (by omega) (mh h b d.toList ++ [some (.cells [.int .u64 ((e - a : Nat) : Int)] 273)])
    have hlen : (mh h b d.toList).length = h.length := put_length
    have ex : ((e : Int) - (a : Int)) = ((e - a : Nat) : Int) := by omega
    have hcc' : CT M (fnM 271) [.int .i64 ((e : Int) - (a : Int))] ((mh h b d.toList ++ [some (Blk.cells [.int .u64 0] 273)]).put (mh h b d.toList).length (some (.cells [.int .u64 ((e : Int) - (a : Int))] 273))) ⟨.int .u64 P, (mh h b d.toList ++ [some (Blk.cells [.int .u64 0] 273)]).put (mh h b d.toList).length (some (.cells [.int .u64 ((e : Int) - (a : Int))] 273)), []⟩ := by
      rw [put_new, ex]; exact hcc
    have e1 : ((a : Int) + ((e : Int) - (a : Int)) / 4 * 2 - 1) = ((a + (e - a) / 4 * 2 - 1 : Nat) : Int) := by omega
    unfold b233
    simp only [List.map_cons, List.map_nil, List.getElem?_cons_zero, List.getElem?_cons_succ, List.getElem?_nil, Option.getD_some, Option.getD_none]
    repeat' first | (apply WO.stw; exact rfl; exact rfl; exact at_new; exact ⟨rfl, rfl, rfl⟩) | apply W.seq | apply SQn | apply W.region | apply WO.nil | apply W.block | apply W.ret | apply W.exit | apply W.skip | apply SQr | apply SQe | apply BQn | apply BQr | apply BQe | (apply BQo; exact rfl) | apply LQe | apply LQr | (apply W.condT; exact rfl) | (apply W.condF; exact rfl) | (apply W.cond; exact rfl; all_goals intro _) | (apply WO.geq; exact rfl; exact rfl; all_goals first | (intro _; exfalso; omega) | intro _) | (apply WO.cvu; exact rfl; omega) | (apply WO.add; exact rfl; exact rfl; omega) | (apply WO.sub; exact rfl; exact rfl; omega) | (apply WO.mul; exact rfl; exact rfl; omega) | (apply WO.quop; exact rfl; exact rfl; omega; omega; intro _ _) | (apply WO.quon; exact rfl; exact rfl; omega; omega; intro _ _) | (apply WO.quo; exact rfl; exact rfl; omega; omega) | (apply WO.ct; exact rfl; exact rfl; first | exact hcc') | (apply WO.ctn; exact rfl; exact rfl; first | exact hcc') | (apply WD.ct; exact rfl; exact rfl; exact rfl; first | exact hcc') | (apply WO.clb; exact rfl; exact rfl; exact rfl; all_goals first | (intro h; exact absurd h (by decide)) | intro _) | (apply WO.cll; exact rfl; exact rfl; exact rfl) | (apply WO.hlv; exact rfl; exact rfl; exact rfl) | (apply WO.hpv; exact rfl; exact rfl; exact rfl) | (apply WO.hnv; exact rfl; exact rfl; exact rfl) | (apply WO.pl; exact rfl; exact rfl) | (apply WO.pp; exact rfl; exact rfl)
    rw [put_new, e1, ex, hlen]
    refine loop233 C hb hn d a e hae he P hP hP2 _ _ (a + (e - a) / 4 * 2 - 1) d _ _ _ _ (Nat.le_refl _) (by omega) (by omega) hd (Go.Sort.permIn_refl _ _ _) ((OnlyN.nil).new (by rw [Nat.le_iff_lt_or_eq]; exact .inr rfl)) (fun d' x y rnd' lo wr hp hw => ?_)
    repeat' first | apply W.seq | apply SQn | apply W.region | apply WO.nil | apply W.block | apply W.ret | apply W.exit | apply W.skip | apply SQr | apply SQe | apply BQn | apply BQr | apply BQe | (apply BQo; exact rfl) | apply LQe | apply LQr | (apply W.condT; exact rfl) | (apply W.condF; exact rfl) | (apply W.cond; exact rfl; all_goals intro _) | (apply WO.geq; exact rfl; exact rfl; all_goals first | (intro _; exfalso; omega) | intro _) | (apply WO.cvu; exact rfl; omega) | (apply WO.add; exact rfl; exact rfl; omega) | (apply WO.sub; exact rfl; exact rfl; omega) | (apply WO.mul; exact rfl; exact rfl; omega) | (apply WO.quop; exact rfl; exact rfl; omega; omega; intro _ _) | (apply WO.quon; exact rfl; exact rfl; omega; omega; intro _ _) | (apply WO.quo; exact rfl; exact rfl; omega; omega) | (apply WO.clb; exact rfl; exact rfl; exact rfl; all_goals first | (intro h; exact absurd h (by decide)) | intro _) | (apply WO.cll; exact rfl; exact rfl; exact rfl) | (apply WO.hlv; exact rfl; exact rfl; exact rfl) | (apply WO.hpv; exact rfl; exact rfl; exact rfl) | (apply WO.hnv; exact rfl; exact rfl; exact rfl) | (apply WO.pl; exact rfl; exact rfl) | (apply WO.pp; exact rfl; exact rfl)
    exact ⟨.inl rfl, rfl, _, _, rfl, hw, _, rfl, rfl, d', rfl, hp⟩)
  exact ⟨d', wr, hp, hw, hct⟩
end Go.Ab.Ch1


/-
  Own work: slices.pdqsortCmpFunc over fewer than fifty marks.
-/
namespace Go.Ab.Ch1
open Go.Sort (swp PermIn SortedIn SWO Below)
variable {M : Mach} {h : Heap} {b n : Nat} {cap : Option Nat} {g : AV} {c : Mk → Mk → Int}

def t190d : ICode :=
 .seq (.region [⟨(.l 106), .mv (.p 0), none⟩,
             ⟨(.l 107), .mv (.p 1), none⟩,
             ⟨(.l 108), .mv (.p 2), none⟩,
             ⟨(.l 109), .mv (.p 8), none⟩,
             ⟨(.l 110), .mv (.p 4), none⟩,
             ⟨(.l 111), .call (.c (.fn (.func 238) [] [])) [(.l 106), (.l 107), (.l 108), (.l 109), (.l 110)], none⟩,
             ⟨(.l 105), .mv (.l 111), none⟩,
             ⟨(.l 112), .extract 0 (.l 105), none⟩,
             ⟨(.l 113), .extract 1 (.l 105), none⟩,
             ⟨(.p 11), .mv (.l 112), none⟩,
             ⟨(.p 12), .mv (.l 113), none⟩])
           (.seq (.region [⟨(.l 114), .mv (.p 12), none⟩,
              ⟨(.p 6), .mv (.l 114), none⟩])
            (.seq (.region [⟨(.l 115), .mv (.p 11), none⟩,
               ⟨(.l 116), .mv (.p 1), none⟩,
               ⟨(.l 117), .bin .sub (.l 115) (.l 116), none⟩,
               ⟨(.l 118), .mv (.p 2), none⟩,
               ⟨(.l 119), .mv (.p 11), none⟩,
               ⟨(.l 120), .bin .sub (.l 118) (.l 119), none⟩,
               ⟨(.p 13), .mv (.l 117), none⟩,
               ⟨(.p 14), .mv (.l 120), none⟩])
             (.seq (.region [⟨(.l 121), .mv (.p 7), none⟩,
                ⟨(.l 122), .bin .quo (.l 121) (.c (.int .i64 (8))), none⟩,
                ⟨(.p 15), .mv (.l 122), none⟩])
              (.seq (.region [⟨(.l 123), .mv (.p 13), none⟩,
                 ⟨(.l 124), .mv (.p 14), none⟩,
                 ⟨(.l 125), .bin .lss (.l 123) (.l 124), none⟩])
               (.cond (.l 125)
                (.seq (.region [⟨(.l 126), .mv (.p 13), none⟩,
                   ⟨(.l 127), .mv (.p 15), none⟩,
                   ⟨(.l 128), .bin .geq (.l 126) (.l 127), none⟩,
                   ⟨(.p 5), .mv (.l 128), none⟩])
                 (.seq (.region [⟨(.l 129), .mv (.p 0), none⟩,
                    ⟨(.l 130), .mv (.p 1), none⟩,
                    ⟨(.l 131), .mv (.p 11), none⟩,
                    ⟨(.l 132), .mv (.p 3), none⟩,
                    ⟨(.l 133), .mv (.p 4), none⟩,
                    ⟨(.l 134), .call (.c (.fn (.func 190) [] [])) [(.l 129), (.l 130), (.l 131), (.l 132), (.l 133)], none⟩])
                  (.region [⟨(.l 135), .mv (.p 11), none⟩,
                    ⟨(.l 136), .bin .add (.l 135) (.c (.int .i64 (1))), none⟩,
                    ⟨(.p 1), .mv (.l 136), none⟩])))
                (.seq (.region [⟨(.l 137), .mv (.p 14), none⟩,
                   ⟨(.l 138), .mv (.p 15), none⟩,
                   ⟨(.l 139), .bin .geq (.l 137) (.l 138), none⟩,
                   ⟨(.p 5), .mv (.l 139), none⟩])
                 (.seq (.region [⟨(.l 140), .mv (.p 0), none⟩,
                    ⟨(.l 141), .mv (.p 11), none⟩,
                    ⟨(.l 142), .bin .add (.l 141) (.c (.int .i64 (1))), none⟩,
                    ⟨(.l 143), .mv (.p 2), none⟩,
                    ⟨(.l 144), .mv (.p 3), none⟩,
                    ⟨(.l 145), .mv (.p 4), none⟩,
                    ⟨(.l 146), .call (.c (.fn (.func 190) [] [])) [(.l 140), (.l 142), (.l 143), (.l 144), (.l 145)], none⟩])
                  (.region [⟨(.l 147), .mv (.p 11), none⟩,
                    ⟨(.p 2), .mv (.l 147), none⟩]))))))))
def t190c : ICode :=
 .seq (.seq (.draw [(⟨(.l 81), .mv (.p 1), none⟩, []),
             (⟨(.l 82), .bin .gtr (.l 81) (.c (.int .i64 (0))), none⟩, []),
             (⟨(.l 83), .mv (.l 82), none⟩, []),
             (⟨(.l 84), .mv (.p 4), some ((.l 83), true)⟩, []),
             (⟨(.l 85), .mv (.p 0), some ((.l 83), true)⟩, [3]),
             (⟨(.l 86), .mv (.p 1), some ((.l 83), true)⟩, [3, 4]),
             (⟨(.l 87), .bin .sub (.l 86) (.c (.int .i64 (1))), some ((.l 83), true)⟩, [3, 4]),
             (⟨(.l 88), .iaddr none 3 (.l 85) (.l 87), some ((.l 83), true)⟩, [3]),
             (⟨(.l 89), .load 3 true (.l 88), some ((.l 83), true)⟩, [3]),
             (⟨(.l 90), .mv (.p 0), some ((.l 83), true)⟩, [3, 4, 5, 6, 7, 8]),
             (⟨(.l 91), .mv (.p 8), some ((.l 83), true)⟩, [3, 4, 5, 6, 7, 8, 9]),
             (⟨(.l 92), .iaddr none 3 (.l 90) (.l 91), some ((.l 83), true)⟩, [3, 4, 5, 6, 7, 8]),
             (⟨(.l 93), .load 3 true (.l 92), some ((.l 83), true)⟩, [3, 4, 5, 6, 7, 8]),
             (⟨(.l 94), .call (.l 84) [(.l 89), (.l 93)], some ((.l 83), true)⟩, []),
             (⟨(.l 95), .bin .lss (.l 94) (.c (.int .i64 (0))), some ((.l 83), true)⟩, []),
             (⟨(.l 96), .un .not (.l 95), some ((.l 83), true)⟩, []),
             (⟨(.l 97), .pick (.l 83) (.l 96) (.c (.bool false)), none⟩, [])])
           (.cond (.l 97)
            (.seq (.region [⟨(.l 98), .mv (.p 0), none⟩,
               ⟨(.l 99), .mv (.p 1), none⟩,
               ⟨(.l 100), .mv (.p 2), none⟩,
               ⟨(.l 101), .mv (.p 8), none⟩,
               ⟨(.l 102), .mv (.p 4), none⟩,
               ⟨(.l 103), .call (.c (.fn (.func 237) [] [])) [(.l 98), (.l 99), (.l 100), (.l 101), (.l 102)], none⟩,
               ⟨(.p 10), .mv (.l 103), none⟩])
             (.seq (.region [⟨(.l 104), .mv (.p 10), none⟩,
                ⟨(.p 1), .mv (.l 104), none⟩])
              (.exit 1)))
            (.skip)))
          t190d
def t190b : ICode :=
 .seq (.seq (.region [⟨(.l 68), .mv (.p 5), none⟩,
            ⟨(.l 69), .mv (.l 68), none⟩,
            ⟨(.l 70), .mv (.p 6), some ((.l 69), true)⟩,
            ⟨(.l 71), .pick (.l 69) (.l 70) (.c (.bool false)), none⟩,
            ⟨(.l 72), .mv (.l 71), none⟩,
            ⟨(.l 73), .mv (.p 9), some ((.l 72), true)⟩,
            ⟨(.l 74), .bin .eql (.l 73) (.c (.int .i64 (1))), some ((.l 72), true)⟩,
            ⟨(.l 75), .pick (.l 72) (.l 74) (.c (.bool false)), none⟩])
          (.cond (.l 75)
           (.seq (.region [⟨(.l 76), .mv (.p 0), none⟩,
              ⟨(.l 77), .mv (.p 1), none⟩,
              ⟨(.l 78), .mv (.p 2), none⟩,
              ⟨(.l 79), .mv (.p 4), none⟩,
              ⟨(.l 80), .call (.c (.fn (.func 236) [] [])) [(.l 76), (.l 77), (.l 78), (.l 79)], none⟩])
            (.cond (.l 80)
             (.ret)
             (.skip)))
           (.skip)))
         t190c
def t190a : ICode :=
 .seq (.region [⟨(.l 48), .mv (.p 0), none⟩,
         ⟨(.l 49), .mv (.p 1), none⟩,
         ⟨(.l 50), .mv (.p 2), none⟩,
         ⟨(.l 51), .mv (.p 4), none⟩,
         ⟨(.l 52), .call (.c (.fn (.func 234) [] [])) [(.l 48), (.l 49), (.l 50), (.l 51)], none⟩,
         ⟨(.l 47), .mv (.l 52), none⟩,
         ⟨(.l 53), .extract 0 (.l 47), none⟩,
         ⟨(.l 54), .extract 1 (.l 47), none⟩,
         ⟨(.p 8), .mv (.l 53), none⟩,
         ⟨(.p 9), .mv (.l 54), none⟩])
       (.seq (.seq (.region [⟨(.l 55), .mv (.p 9), none⟩,
           ⟨(.l 56), .bin .eql (.l 55) (.c (.int .i64 (2))), none⟩])
         (.cond (.l 56)
          (.seq (.region [⟨(.l 57), .mv (.p 0), none⟩,
             ⟨(.l 58), .mv (.p 1), none⟩,
             ⟨(.l 59), .mv (.p 2), none⟩,
             ⟨(.l 60), .mv (.p 4), none⟩,
             ⟨(.l 61), .call (.c (.fn (.func 235) [] [])) [(.l 57), (.l 58), (.l 59), (.l 60)], none⟩])
           (.seq (.region [⟨(.l 62), .mv (.p 2), none⟩,
              ⟨(.l 63), .bin .sub (.l 62) (.c (.int .i64 (1))), none⟩,
              ⟨(.l 64), .mv (.p 8), none⟩,
              ⟨(.l 65), .mv (.p 1), none⟩,
              ⟨(.l 66), .bin .sub (.l 64) (.l 65), none⟩,
              ⟨(.l 67), .bin .sub (.l 63) (.l 66), none⟩,
              ⟨(.p 8), .mv (.l 67), none⟩])
            (.region [⟨(.p 9), .mv (.c (.int .i64 (1))), none⟩])))
          (.skip)))
        t190b)

/-- The recursion's own contract, for a part that is smaller than m. -/
def Rec (M : Mach) (h : Heap) (b n : Nat) (cap : Option Nat) (g : AV) (c : Mk → Mk → Int) (m : Nat) : Prop := ∀ (a e : Nat) (lim : Int) (d : Array Mk), a ≤ e → e ≤ n → e - a < m → 0 ≤ lim → lim ≤ 1000 → d.size = n → Below (ltOf c) a e d →
  ∃ R wr, PermIn a e d R ∧ SortedIn (ltOf c) a e R ∧ Only b wr ∧ CT M (fnM 190) [.sl b 0 n 3 cap, .int .i64 a, .int .i64 e, .int .i64 lim, g] (mh h b d.toList) ⟨.tup [], mh h b R.toList, wr⟩

/-- What a round hands on: a smaller part, sorted with which the whole is sorted. -/
def Rest (c : Mk → Mk → Int) (n a e : Nat) (d : Array Mk) (a' e' : Nat) (R : Array Mk) : Prop :=
  a' ≤ e' ∧ e' ≤ n ∧ e' - a' < e - a ∧ R.size = n ∧ Below (ltOf c) a' e' R ∧ ∀ S, PermIn a' e' R S → SortedIn (ltOf c) a' e' S → PermIn a e d S ∧ SortedIn (ltOf c) a e S

set_option maxHeartbeats 2000000 in
theorem tail190d (C : CPd M) (hb : b < h.length) (hn : n < 50) (hc : CmpM M g c) (hS : SWO (ltOf c)) (a e p : Nat) (hr : Rec M h b n cap g c (e - a)) (lim : Int) (hl0 : 0 ≤ lim) (hl1 : lim ≤ 1000) (d : Array Mk) (hd : d.size = n) (hap : a ≤ p) (hpe : p < e) (he : e ≤ n) (hB : Below (ltOf c) a e d) (a5 a6 a9 a10 a11 a12 a13 a14 a15 : AV) (lo : List (Nat × AV)) (wr : List Nat) (hw : Only b wr) {Q : Ex → StW → Prop}
    (hQ : ∀ a' e' R wb wp x7 x8 x9 x10 x11 x12 x13 x14 x15 lo wr, Rest c n a e d a' e' R → Only b wr → Q .normal ⟨⟨[.sl b 0 n 3 cap, .int .i64 a', .int .i64 e', .int .i64 lim, g, .bool wb, .bool wp, x7, x8, x9, x10, x11, x12, x13, x14, x15], lo, mh h b R.toList, []⟩, wr⟩) :
    W M t190d ⟨⟨[.sl b 0 n 3 cap, .int .i64 a, .int .i64 e, .int .i64 lim, g, a5, a6, .int .i64 ((e : Int) - (a : Int)), .int .i64 p, a9, a10, a11, a12, a13, a14, a15], lo, mh h b d.toList, []⟩, wr⟩ Q := by
  obtain ⟨w1, o1, c1⟩ := r238 (cap := cap) C hb (by omega) hc d hd a e p hap hpe he
  obtain ⟨⟨mid, ap, d4⟩, hx⟩ : ∃ r, Go.Sort.partition (ltOf c) d a e p = r := ⟨_, rfl⟩
  rw [hx] at c1
  obtain ⟨g1, g2, hs4, hBa, hBr, hleft, hright⟩ := Go.Sort.round_part hS (Go.Sort.partition_holds _) hap hpe (by omega) hB hx
  have hd4 : d4.size = n := by rw [hs4, hd]
  obtain ⟨L, wL, L1, L2, oL, cL⟩ := hr a mid lim d4 g1 (by omega) (by omega) hl0 hl1 hd4 hBa
  obtain ⟨R, wR, R1, R2, oR, cR⟩ := hr (mid + 1) e lim d4 (by omega) he (by omega) hl0 hl1 hd4 hBr
  have cR' : CT M (fnM 190) [.sl b 0 n 3 cap, .int .i64 ((mid : Int) + 1), .int .i64 e, .int .i64 lim, g] (mh h b d4.toList) ⟨.tup [], mh h b R.toList, wR⟩ := cR
  have qL : Rest c n a e d (mid + 1) e L := ⟨by omega, he, by omega, by rw [L1.1, hd4], (hleft L L1 L2).1, fun S s1 s2 => (hleft L L1 L2).2 S s1 s2⟩
  have qR : Rest c n a e d a mid R := ⟨g1, by omega, by omega, by rw [R1.1, hd4], (hright R R1 R2).1, fun S s1 s2 => (hright R R1 R2).2 S s1 s2⟩
  simp only at c1
  unfold t190d
  repeat' first | apply W.seq | apply SQn | apply W.region | apply WO.nil | apply W.block | apply W.ret | apply W.exit | apply W.skip | apply SQr | apply SQe | apply BQn | apply BQr | apply BQe | (apply BQo; exact rfl) | apply LQe | apply LQr | (apply W.drawro; exact rfl) | apply W.draw | apply WD.nil | (apply WD.gT; exact rfl) | (apply WD.gF; exact rfl) | (apply WD.sT; exact rfl) | (apply WD.sF; exact rfl) | (apply WD.sU; exact rfl) | (apply WD.pure1; exact rfl) | (apply WD.load1; exact rfl; exact rfl; exact rfl) | (apply WD.store1; exact rfl; exact rfl; exact rfl) | (apply WD.new1; exact rfl) | (apply WD.look1; exact rfl; exact rfl) | (apply WD.clb; exact rfl; exact rfl; exact rfl; exact rfl; all_goals first | (intro h; exact absurd h (by decide)) | intro _) | (apply WD.cl0; exact rfl; exact rfl; exact rfl; exact rfl) | (apply WD.cl1; exact rfl; exact rfl; exact rfl; exact rfl) | (apply W.condT; exact rfl) | (apply W.condF; exact rfl) | (apply W.cond; exact rfl; all_goals intro _) | (apply WO.gT; exact rfl) | (apply WO.gF; exact rfl) | (apply WO.sT; exact rfl) | (apply WO.sF; exact rfl) | (apply WO.sU; exact rfl) | (apply WO.lss; exact rfl; exact rfl; all_goals first | (intro _; exfalso; omega) | intro _) | (apply WO.leq; exact rfl; exact rfl; all_goals first | (intro _; exfalso; omega) | intro _) | (apply WO.gtr; exact rfl; exact rfl; all_goals first | (intro _; exfalso; omega) | intro _) | (apply WO.geq; exact rfl; exact rfl; all_goals first | (intro _; exfalso; omega) | intro _) | (apply WO.eql; exact rfl; exact rfl; all_goals first | (intro _; exfalso; omega) | intro _) | (apply WO.neq; exact rfl; exact rfl; all_goals first | (intro _; exfalso; omega) | intro _) | (apply WO.cvu; exact rfl; omega) | (apply WO.cvi; exact rfl; omega) | (apply WO.shr1; exact rfl) | (apply WO.pkT; exact rfl; exact rfl) | (apply WO.pkF; exact rfl; exact rfl) | (apply WO.add; exact rfl; exact rfl; omega) | (apply WO.sub; exact rfl; exact rfl; omega) | (apply WO.mul; exact rfl; exact rfl; omega) | (apply WO.remp; exact rfl; exact rfl; omega; intro _ _) | (apply WO.remn; exact rfl; exact rfl; omega; intro _ _) | (apply WO.quop; exact rfl; exact rfl; omega; omega; intro _ _) | (apply WO.quon; exact rfl; exact rfl; omega; omega; intro _ _) | (apply WO.rem; exact rfl; exact rfl; omega) | (apply WO.quo; exact rfl; exact rfl; omega; omega) | (apply WO.ct; exact rfl; exact rfl; first | exact c1 | exact cL | exact cR') | (apply WO.ctn; exact rfl; exact rfl; first | exact c1 | exact cL | exact cR') | (apply WD.ct; exact rfl; exact rfl; exact rfl; first | exact c1 | exact cL | exact cR') | (apply WO.iav; exact rfl; exact rfl; omega) | (apply WO.ias; exact rfl; exact rfl; omega) | (apply WO.idx; exact rfl; exact rfl; omega) | (apply WO.mki; exact rfl; exact rfl; omega) | (apply WO.mkb; exact rfl; exact rfl; omega) | (apply WO.lda; exact rfl; exact fun _ => rfl; (first | omega | (simp only [List.length_set]; omega) | (simp; omega)); decide; exact rfl; case ia => infer_instance) | (apply WO.lsa; exact rfl; (first | exact rfl | assumption | exact at_new | (apply at_old; assumption) | (apply at_put; first | assumption | (simp only [put_length]; assumption))); exact fun _ => rfl; (first | omega | (simp only [List.length_set]; omega) | (simp; omega)); decide; exact rfl; case ia => infer_instance) | (apply WO.sta; exact rfl; exact rfl; (first | exact rfl | assumption | exact at_new | (apply at_old; assumption) | (apply at_put; first | assumption | (simp only [put_length]; assumption))); exact fun _ => rfl; (first | omega | (simp only [List.length_set]; omega) | (simp; omega)); exact ⟨rfl, by decide, rfl⟩; exact rfl; case ia => infer_instance) | (apply WO.ldf; exact rfl; exact fun _ => rfl; (first | omega | (simp only [List.length_set]; omega) | (simp; omega)); decide; exact rfl; case ia => infer_instance) | (apply WO.lsf; exact rfl; (first | exact rfl | assumption | exact at_new | (apply at_old; assumption) | (apply at_put; first | assumption | (simp only [put_length]; assumption))); exact fun _ => rfl; (first | omega | (simp only [List.length_set]; omega) | (simp; omega)); decide; exact rfl; case ia => infer_instance) | (apply WO.stf; exact rfl; exact rfl; (first | exact rfl | assumption | exact at_new | (apply at_old; assumption) | (apply at_put; first | assumption | (simp only [put_length]; assumption))); exact fun _ => rfl; (first | omega | (simp only [List.length_set]; omega) | (simp; omega)); exact ⟨rfl, by decide, rfl⟩; exact rfl; case ia => infer_instance) | (apply WO.seql; exact rfl; exact rfl; all_goals first | (intro h; exact absurd h (by decide)) | (intro h; exact absurd rfl h) | (intro h; contradiction) | intro _) | (apply WO.sneq; exact rfl; exact rfl; all_goals first | (intro h; exact absurd h (by decide)) | (intro h; exact absurd rfl h) | (intro h; contradiction) | intro _) | (apply WO.clb; exact rfl; exact rfl; exact rfl; all_goals first | (intro h; exact absurd h (by decide)) | intro _) | (apply WO.cll; exact rfl; exact rfl; exact rfl) | (apply WO.neg; exact rfl; omega) | (apply WO.eqM; exact rfl; exact rfl; all_goals first | (intro h; exact absurd ⟨rfl, rfl, rfl⟩ h) | intro _) | (apply WO.hlv; exact rfl; exact rfl; exact rfl) | (apply WO.hpv; exact rfl; exact rfl; exact rfl) | (apply WO.hnv; exact rfl; exact rfl; exact rfl) | (apply WO.pl; exact rfl; exact rfl) | (apply WO.pp; exact rfl; exact rfl)
  · exact hQ (mid + 1) e L _ _ _ _ _ _ _ _ _ _ _ _ _ qL (oL.app (o1.app hw))
  · exact hQ (mid + 1) e L _ _ _ _ _ _ _ _ _ _ _ _ _ qL (oL.app (o1.app hw))
  · exact hQ a mid R _ _ _ _ _ _ _ _ _ _ _ _ _ qR (oR.app (o1.app hw))
  · exact hQ a mid R _ _ _ _ _ _ _ _ _ _ _ _ _ qR (oR.app (o1.app hw))

set_option maxHeartbeats 2000000 in
theorem tail190c (C : CPd M) (hb : b < h.length) (hn : n < 50) (hc : CmpM M g c) (hS : SWO (ltOf c)) (a e p : Nat) (hr : Rec M h b n cap g c (e - a)) (lim : Int) (hl0 : 0 ≤ lim) (hl1 : lim ≤ 1000) (d : Array Mk) (hd : d.size = n) (hap : a ≤ p) (hpe : p < e) (he : e ≤ n) (hB : Below (ltOf c) a e d) (wb wp : Bool) (a9 a10 a11 a12 a13 a14 a15 : AV) (lo : List (Nat × AV)) (wr : List Nat) (hw : Only b wr) {Q : Ex → StW → Prop}
    (hQ : ∀ ex a' e' R wb wp x7 x8 x9 x10 x11 x12 x13 x14 x15 lo wr, (ex = .normal ∨ ex = .exit 1) → Rest c n a e d a' e' R → Only b wr → Q ex ⟨⟨[.sl b 0 n 3 cap, .int .i64 a', .int .i64 e', .int .i64 lim, g, .bool wb, .bool wp, x7, x8, x9, x10, x11, x12, x13, x14, x15], lo, mh h b R.toList, []⟩, wr⟩) :
    W M t190c ⟨⟨[.sl b 0 n 3 cap, .int .i64 a, .int .i64 e, .int .i64 lim, g, .bool wb, .bool wp, .int .i64 ((e : Int) - (a : Int)), .int .i64 p, a9, a10, a11, a12, a13, a14, a15], lo, mh h b d.toList, []⟩, wr⟩ Q := by
  have hl : d.toList.length = n := by simp [hd]
  have f1 : ((a : Int) - 1).toNat = a - 1 := by omega
  have f2 : ((p : Int)).toNat = p := by omega
  have td := fun x9 x10 x11 x12 x13 x14 x15 lo => tail190d (cap := cap) C hb hn hc hS a e p hr lim hl0 hl1 d hd hap hpe he hB (.bool wb) (.bool wp) x9 x10 x11 x12 x13 x14 x15 lo wr hw (Q := Q) (fun a' e' R wb wp x7 x8 x9 x10 x11 x12 x13 x14 x15 lo wr h1 h2 => hQ .normal a' e' R wb wp x7 x8 x9 x10 x11 x12 x13 x14 x15 lo wr (.inl rfl) h1 h2)
  obtain ⟨⟨mid, d4⟩, hx⟩ : ∃ r, Go.Sort.partitionEqual (ltOf c) d a e p = r := ⟨_, rfl⟩
  obtain ⟨w1, o1, c1⟩ := r237 (cap := cap) C hb (by omega) hc d hd a e p hap hpe he
  rw [hx] at c1
  simp only at c1
  unfold t190c
  repeat' first | (exact td _ _ _ _ _ _ _ _) | apply W.seq | apply SQn | apply W.region | apply WO.nil | apply W.block | apply W.ret | apply W.exit | apply W.skip | apply SQr | apply SQe | apply BQn | apply BQr | apply BQe | (apply BQo; exact rfl) | apply LQe | apply LQr | (apply W.drawro; exact rfl) | apply W.draw | apply WD.nil | (apply WD.gT; exact rfl) | (apply WD.gF; exact rfl) | (apply WD.sT; exact rfl) | (apply WD.sF; exact rfl) | (apply WD.sU; exact rfl) | (apply WD.pure1; exact rfl) | (apply WD.load1; exact rfl; exact rfl; exact rfl) | (apply WD.store1; exact rfl; exact rfl; exact rfl) | (apply WD.new1; exact rfl) | (apply WD.look1; exact rfl; exact rfl) | (apply WD.clb; exact rfl; exact rfl; exact rfl; exact rfl; all_goals first | (intro h; exact absurd h (by decide)) | intro _) | (apply WD.cl0; exact rfl; exact rfl; exact rfl; exact rfl) | (apply WD.cl1; exact rfl; exact rfl; exact rfl; exact rfl) | (apply W.condT; exact rfl) | (apply W.condF; exact rfl) | (apply W.cond; exact rfl; all_goals intro _) | (apply WO.gT; exact rfl) | (apply WO.gF; exact rfl) | (apply WO.sT; exact rfl) | (apply WO.sF; exact rfl) | (apply WO.sU; exact rfl) | (apply WO.lss; exact rfl; exact rfl; all_goals first | (intro _; exfalso; omega) | intro _) | (apply WO.leq; exact rfl; exact rfl; all_goals first | (intro _; exfalso; omega) | intro _) | (apply WO.gtr; exact rfl; exact rfl; all_goals first | (intro _; exfalso; omega) | intro _) | (apply WO.geq; exact rfl; exact rfl; all_goals first | (intro _; exfalso; omega) | intro _) | (apply WO.eql; exact rfl; exact rfl; all_goals first | (intro _; exfalso; omega) | intro _) | (apply WO.neq; exact rfl; exact rfl; all_goals first | (intro _; exfalso; omega) | intro _) | (apply WO.cvu; exact rfl; omega) | (apply WO.cvi; exact rfl; omega) | (apply WO.shr1; exact rfl) | (apply WO.pkT; exact rfl; exact rfl) | (apply WO.pkF; exact rfl; exact rfl) | (apply WO.add; exact rfl; exact rfl; omega) | (apply WO.sub; exact rfl; exact rfl; omega) | (apply WO.mul; exact rfl; exact rfl; omega) | (apply WO.remp; exact rfl; exact rfl; omega; intro _ _) | (apply WO.remn; exact rfl; exact rfl; omega; intro _ _) | (apply WO.quop; exact rfl; exact rfl; omega; omega; intro _ _) | (apply WO.quon; exact rfl; exact rfl; omega; omega; intro _ _) | (apply WO.rem; exact rfl; exact rfl; omega) | (apply WO.quo; exact rfl; exact rfl; omega; omega) | (apply WO.ct; exact rfl; exact rfl; first | exact hc _ _ _ | exact c1) | (apply WO.ctn; exact rfl; exact rfl; first | exact hc _ _ _ | exact c1) | (apply WD.ct; exact rfl; exact rfl; exact rfl; first | exact hc _ _ _ | exact c1) | (apply WO.iav; exact rfl; exact rfl; omega) | (apply WO.ias; exact rfl; exact rfl; omega) | (apply WO.idx; exact rfl; exact rfl; omega) | (apply WO.mki; exact rfl; exact rfl; omega) | (apply WO.mkb; exact rfl; exact rfl; omega) | (apply WO.lda; exact rfl; exact fun _ => rfl; (first | omega | (simp only [List.length_set]; omega) | (simp; omega)); decide; exact rfl; case ia => infer_instance) | (apply WO.lsa; exact rfl; (first | exact rfl | assumption | exact at_new | (apply at_old; assumption) | (apply at_put; first | assumption | (simp only [put_length]; assumption))); exact fun _ => rfl; (first | omega | (simp only [List.length_set]; omega) | (simp; omega)); decide; exact rfl; case ia => infer_instance) | (apply WO.sta; exact rfl; exact rfl; (first | exact rfl | assumption | exact at_new | (apply at_old; assumption) | (apply at_put; first | assumption | (simp only [put_length]; assumption))); exact fun _ => rfl; (first | omega | (simp only [List.length_set]; omega) | (simp; omega)); exact ⟨rfl, by decide, rfl⟩; exact rfl; case ia => infer_instance) | (apply WO.ldf; exact rfl; exact fun _ => rfl; (first | omega | (simp only [List.length_set]; omega) | (simp; omega)); decide; exact rfl; case ia => infer_instance) | (apply WO.lsf; exact rfl; (first | exact rfl | assumption | exact at_new | (apply at_old; assumption) | (apply at_put; first | assumption | (simp only [put_length]; assumption))); exact fun _ => rfl; (first | omega | (simp only [List.length_set]; omega) | (simp; omega)); decide; exact rfl; case ia => infer_instance) | (apply WO.stf; exact rfl; exact rfl; (first | exact rfl | assumption | exact at_new | (apply at_old; assumption) | (apply at_put; first | assumption | (simp only [put_length]; assumption))); exact fun _ => rfl; (first | omega | (simp only [List.length_set]; omega) | (simp; omega)); exact ⟨rfl, by decide, rfl⟩; exact rfl; case ia => infer_instance) | (apply WO.seql; exact rfl; exact rfl; all_goals first | (intro h; exact absurd h (by decide)) | (intro h; exact absurd rfl h) | (intro h; contradiction) | intro _) | (apply WO.sneq; exact rfl; exact rfl; all_goals first | (intro h; exact absurd h (by decide)) | (intro h; exact absurd rfl h) | (intro h; contradiction) | intro _) | (apply WO.clb; exact rfl; exact rfl; exact rfl; all_goals first | (intro h; exact absurd h (by decide)) | intro _) | (apply WO.cll; exact rfl; exact rfl; exact rfl) | (apply WO.neg; exact rfl; omega) | (apply WO.eqM; exact rfl; exact rfl; all_goals first | (intro h; exact absurd ⟨rfl, rfl, rfl⟩ h) | intro _) | (apply WO.hlv; exact rfl; exact rfl; exact rfl) | (apply WO.hpv; exact rfl; exact rfl; exact rfl) | (apply WO.hnv; exact rfl; exact rfl; exact rfl) | (apply WO.pl; exact rfl; exact rfl) | (apply WO.pp; exact rfl; exact rfl)
  rename_i k1 k2
  simp only [f1, f2, at_list] at k2
  obtain ⟨g1, g2, hs4, hBr, hfin⟩ := Go.Sort.round_eq hS (Go.Sort.partitionEqual_holds _) (show 0 < a by omega) hap hpe (by omega) hB (lt_f (Int.not_lt.2 k2)) hx
  exact hQ (.exit 1) mid e d4 _ _ _ _ _ _ _ _ _ _ _ _ _ (.inr rfl) ⟨g2, he, by omega, by rw [hs4, hd], hBr, hfin⟩ (o1.app hw)

set_option maxHeartbeats 2000000 in
theorem tail190b (C : CPd M) (hb : b < h.length) (hn : n < 50) (hc : CmpM M g c) (hS : SWO (ltOf c)) (a e p : Nat) (hr : Rec M h b n cap g c (e - a)) (lim : Int) (hl0 : 0 ≤ lim) (hl1 : lim ≤ 1000) (d : Array Mk) (hd : d.size = n) (hap : a ≤ p) (hpe : p < e) (he : e ≤ n) (hB : Below (ltOf c) a e d) (wb wp : Bool) (x : Int) (a10 a11 a12 a13 a14 a15 : AV) (lo : List (Nat × AV)) (wr : List Nat) (hw : Only b wr) {Q : Ex → StW → Prop}
    (hR : ∀ R pe lo wr, PermIn a e d R → SortedIn (ltOf c) a e R → Only b wr → Q .ret ⟨⟨pe, lo, mh h b R.toList, []⟩, wr⟩)
    (hQ : ∀ ex a' e' R wb wp x7 x8 x9 x10 x11 x12 x13 x14 x15 lo wr, (ex = .normal ∨ ex = .exit 1) → Rest c n a e d a' e' R → Only b wr → Q ex ⟨⟨[.sl b 0 n 3 cap, .int .i64 a', .int .i64 e', .int .i64 lim, g, .bool wb, .bool wp, x7, x8, x9, x10, x11, x12, x13, x14, x15], lo, mh h b R.toList, []⟩, wr⟩) :
    W M t190b ⟨⟨[.sl b 0 n 3 cap, .int .i64 a, .int .i64 e, .int .i64 lim, g, .bool wb, .bool wp, .int .i64 ((e : Int) - (a : Int)), .int .i64 p, .int .i64 x, a10, a11, a12, a13, a14, a15], lo, mh h b d.toList, []⟩, wr⟩ Q := by
  have tc := fun lo => tail190c (cap := cap) C hb hn hc hS a e p hr lim hl0 hl1 d hd hap hpe he hB wb wp (.int .i64 x) a10 a11 a12 a13 a14 a15 lo wr hw (Q := Q) hQ
  have c6 := r236 (cap := cap) C hb hn hc d hd a e (by omega) he
  have hp := Go.Sort.partialInsertionSort_holds hS d a e (by omega) (by omega) hB
  have hfew := partial_few (c := c) d a e (by omega)
  have hps : ∀ f, (Go.Sort.partialInsertionSort (ltOf c) d a e).2 = f → f = true → PermIn a e d d ∧ SortedIn (ltOf c) a e d := fun f hf ht => by
    refine ⟨Go.Sort.permIn_refl _ _ _, ?_⟩
    have := hp.2 (by rw [hf, ht])
    rw [hfew] at this
    exact this
  generalize (Go.Sort.partialInsertionSort (ltOf c) d a e).2 = f at *
  have hps := hps f rfl
  cases wb <;> cases wp <;> cases f
  all_goals
    unfold t190b
    repeat' first | (exact tc _) | apply W.seq | apply SQn | apply W.region | apply WO.nil | apply W.block | apply W.ret | apply W.exit | apply W.skip | apply SQr | apply SQe | apply BQn | apply BQr | apply BQe | (apply BQo; exact rfl) | apply LQe | apply LQr | (apply W.drawro; exact rfl) | apply W.draw | apply WD.nil | (apply WD.gT; exact rfl) | (apply WD.gF; exact rfl) | (apply WD.sT; exact rfl) | (apply WD.sF; exact rfl) | (apply WD.sU; exact rfl) | (apply WD.pure1; exact rfl) | (apply WD.load1; exact rfl; exact rfl; exact rfl) | (apply WD.store1; exact rfl; exact rfl; exact rfl) | (apply WD.new1; exact rfl) | (apply WD.look1; exact rfl; exact rfl) | (apply WD.clb; exact rfl; exact rfl; exact rfl; exact rfl; all_goals first | (intro h; exact absurd h (by decide)) | intro _) | (apply WD.cl0; exact rfl; exact rfl; exact rfl; exact rfl) | (apply WD.cl1; exact rfl; exact rfl; exact rfl; exact rfl) | (apply W.condT; exact rfl) | (apply W.condF; exact rfl) | (apply W.cond; exact rfl; all_goals intro _) | (apply WO.gT; exact rfl) | (apply WO.gF; exact rfl) | (apply WO.sT; exact rfl) | (apply WO.sF; exact rfl) | (apply WO.sU; exact rfl) | (apply WO.lss; exact rfl; exact rfl; all_goals first | (intro _; exfalso; omega) | intro _) | (apply WO.leq; exact rfl; exact rfl; all_goals first | (intro _; exfalso; omega) | intro _) | (apply WO.gtr; exact rfl; exact rfl; all_goals first | (intro _; exfalso; omega) | intro _) | (apply WO.geq; exact rfl; exact rfl; all_goals first | (intro _; exfalso; omega) | intro _) | (apply WO.eql; exact rfl; exact rfl; all_goals first | (intro _; exfalso; omega) | intro _) | (apply WO.neq; exact rfl; exact rfl; all_goals first | (intro _; exfalso; omega) | intro _) | (apply WO.cvu; exact rfl; omega) | (apply WO.cvi; exact rfl; omega) | (apply WO.shr1; exact rfl) | (apply WO.pkT; exact rfl; exact rfl) | (apply WO.pkF; exact rfl; exact rfl) | (apply WO.add; exact rfl; exact rfl; omega) | (apply WO.sub; exact rfl; exact rfl; omega) | (apply WO.mul; exact rfl; exact rfl; omega) | (apply WO.remp; exact rfl; exact rfl; omega; intro _ _) | (apply WO.remn; exact rfl; exact rfl; omega; intro _ _) | (apply WO.quop; exact rfl; exact rfl; omega; omega; intro _ _) | (apply WO.quon; exact rfl; exact rfl; omega; omega; intro _ _) | (apply WO.rem; exact rfl; exact rfl; omega) | (apply WO.quo; exact rfl; exact rfl; omega; omega) | (apply WO.ct; exact rfl; exact rfl; first | exact c6) | (apply WO.ctn; exact rfl; exact rfl; first | exact c6) | (apply WD.ct; exact rfl; exact rfl; exact rfl; first | exact c6) | (apply WO.iav; exact rfl; exact rfl; omega) | (apply WO.ias; exact rfl; exact rfl; omega) | (apply WO.idx; exact rfl; exact rfl; omega) | (apply WO.mki; exact rfl; exact rfl; omega) | (apply WO.mkb; exact rfl; exact rfl; omega) | (apply WO.lda; exact rfl; exact fun _ => rfl; (first | omega | (simp only [List.length_set]; omega) | (simp; omega)); decide; exact rfl; case ia => infer_instance) | (apply WO.lsa; exact rfl; (first | exact rfl | assumption | exact at_new | (apply at_old; assumption) | (apply at_put; first | assumption | (simp only [put_length]; assumption))); exact fun _ => rfl; (first | omega | (simp only [List.length_set]; omega) | (simp; omega)); decide; exact rfl; case ia => infer_instance) | (apply WO.sta; exact rfl; exact rfl; (first | exact rfl | assumption | exact at_new | (apply at_old; assumption) | (apply at_put; first | assumption | (simp only [put_length]; assumption))); exact fun _ => rfl; (first | omega | (simp only [List.length_set]; omega) | (simp; omega)); exact ⟨rfl, by decide, rfl⟩; exact rfl; case ia => infer_instance) | (apply WO.ldf; exact rfl; exact fun _ => rfl; (first | omega | (simp only [List.length_set]; omega) | (simp; omega)); decide; exact rfl; case ia => infer_instance) | (apply WO.lsf; exact rfl; (first | exact rfl | assumption | exact at_new | (apply at_old; assumption) | (apply at_put; first | assumption | (simp only [put_length]; assumption))); exact fun _ => rfl; (first | omega | (simp only [List.length_set]; omega) | (simp; omega)); decide; exact rfl; case ia => infer_instance) | (apply WO.stf; exact rfl; exact rfl; (first | exact rfl | assumption | exact at_new | (apply at_old; assumption) | (apply at_put; first | assumption | (simp only [put_length]; assumption))); exact fun _ => rfl; (first | omega | (simp only [List.length_set]; omega) | (simp; omega)); exact ⟨rfl, by decide, rfl⟩; exact rfl; case ia => infer_instance) | (apply WO.seql; exact rfl; exact rfl; all_goals first | (intro h; exact absurd h (by decide)) | (intro h; exact absurd rfl h) | (intro h; contradiction) | intro _) | (apply WO.sneq; exact rfl; exact rfl; all_goals first | (intro h; exact absurd h (by decide)) | (intro h; exact absurd rfl h) | (intro h; contradiction) | intro _) | (apply WO.clb; exact rfl; exact rfl; exact rfl; all_goals first | (intro h; exact absurd h (by decide)) | intro _) | (apply WO.cll; exact rfl; exact rfl; exact rfl) | (apply WO.neg; exact rfl; omega) | (apply WO.eqM; exact rfl; exact rfl; all_goals first | (intro h; exact absurd ⟨rfl, rfl, rfl⟩ h) | intro _) | (apply WO.hlv; exact rfl; exact rfl; exact rfl) | (apply WO.hpv; exact rfl; exact rfl; exact rfl) | (apply WO.hnv; exact rfl; exact rfl; exact rfl) | (apply WO.pl; exact rfl; exact rfl) | (apply WO.pp; exact rfl; exact rfl)
  all_goals exact hR d _ _ _ (hps rfl).1 (hps rfl).2 hw

theorem perm_below {a e : Nat} {d d' : Array Mk} (hB : Below (ltOf c) a e d) (he : e ≤ d.size) (hp : PermIn a e d d') : Below (ltOf c) a e d' := hB.perm he hp

set_option maxHeartbeats 2000000 in
theorem tail190a (C : CPd M) (hb : b < h.length) (hn : n < 50) (hc : CmpM M g c) (hS : SWO (ltOf c)) (a e : Nat) (hr : Rec M h b n cap g c (e - a)) (lim : Int) (hl0 : 0 ≤ lim) (hl1 : lim ≤ 1000) (d : Array Mk) (hd : d.size = n) (hae : a + 8 ≤ e) (he : e ≤ n) (hB : Below (ltOf c) a e d) (wb wp : Bool) (a8 a9 a10 a11 a12 a13 a14 a15 : AV) (lo : List (Nat × AV)) (wr : List Nat) (hw : Only b wr) {Q : Ex → StW → Prop}
    (hR : ∀ R pe lo wr, PermIn a e d R → SortedIn (ltOf c) a e R → Only b wr → Q .ret ⟨⟨pe, lo, mh h b R.toList, []⟩, wr⟩)
    (hQ : ∀ ex a' e' R wb wp x7 x8 x9 x10 x11 x12 x13 x14 x15 lo wr, (ex = .normal ∨ ex = .exit 1) → Rest c n a e d a' e' R → Only b wr → Q ex ⟨⟨[.sl b 0 n 3 cap, .int .i64 a', .int .i64 e', .int .i64 lim, g, .bool wb, .bool wp, x7, x8, x9, x10, x11, x12, x13, x14, x15], lo, mh h b R.toList, []⟩, wr⟩) :
    W M t190a ⟨⟨[.sl b 0 n 3 cap, .int .i64 a, .int .i64 e, .int .i64 lim, g, .bool wb, .bool wp, .int .i64 ((e : Int) - (a : Int)), a8, a9, a10, a11, a12, a13, a14, a15], lo, mh h b d.toList, []⟩, wr⟩ Q := by
  obtain ⟨p, x, p1, p2, c4⟩ := r234 (cap := cap) C hb hn hc d hd a e hae he
  obtain ⟨w5, o5, c5⟩ := r235 (cap := cap) (g := g) C hb (by omega) d hd a e (by omega) he
  have hp5 := Go.Sort.reverseRange_holds d a e (by omega) (by omega)
  have hd5 : (Go.Sort.reverseRange d a e).size = n := by rw [hp5.1, hd]
  have hB5 := perm_below hB (by omega) hp5
  generalize Go.Sort.reverseRange d a e = d5 at *
  have tb := fun lo => tail190b (cap := cap) C hb hn hc hS a e p hr lim hl0 hl1 d hd p1 p2 he hB wb wp x a10 a11 a12 a13 a14 a15 lo wr hw (Q := Q) hR hQ
  have tb5 := fun lo => tail190b (cap := cap) C hb hn hc hS a e ((e - 1) - (p - a)) hr lim hl0 hl1 d5 hd5 (by omega) (by omega) he hB5 wb wp 1 a10 a11 a12 a13 a14 a15 lo (w5 ++ wr) (o5.app hw) (Q := Q) (fun R pe lo wr h1 h2 h3 => hR R pe lo wr (Go.Sort.permIn_trans _ _ _ a e hp5 h1) h2 h3)
    (fun ex a' e' R wb wp x7 x8 x9 x10 x11 x12 x13 x14 x15 lo wr h1 h2 h3 => hQ ex a' e' R wb wp x7 x8 x9 x10 x11 x12 x13 x14 x15 lo wr h1 ⟨h2.1, h2.2.1, h2.2.2.1, h2.2.2.2.1, h2.2.2.2.2.1, fun S s1 s2 => ⟨Go.Sort.permIn_trans _ _ _ a e hp5 (h2.2.2.2.2.2 S s1 s2).1, (h2.2.2.2.2.2 S s1 s2).2⟩⟩ h3)
  rw [show ((((e - 1) - (p - a) : Nat)) : Int) = ((e : Int) - 1) - ((p : Int) - (a : Int)) by omega] at tb5
  unfold t190a
  repeat' first | (exact tb _) | (exact tb5 _) | apply W.seq | apply SQn | apply W.region | apply WO.nil | apply W.block | apply W.ret | apply W.exit | apply W.skip | apply SQr | apply SQe | apply BQn | apply BQr | apply BQe | (apply BQo; exact rfl) | apply LQe | apply LQr | (apply W.drawro; exact rfl) | apply W.draw | apply WD.nil | (apply WD.gT; exact rfl) | (apply WD.gF; exact rfl) | (apply WD.sT; exact rfl) | (apply WD.sF; exact rfl) | (apply WD.sU; exact rfl) | (apply WD.pure1; exact rfl) | (apply WD.load1; exact rfl; exact rfl; exact rfl) | (apply WD.store1; exact rfl; exact rfl; exact rfl) | (apply WD.new1; exact rfl) | (apply WD.look1; exact rfl; exact rfl) | (apply WD.clb; exact rfl; exact rfl; exact rfl; exact rfl; all_goals first | (intro h; exact absurd h (by decide)) | intro _) | (apply WD.cl0; exact rfl; exact rfl; exact rfl; exact rfl) | (apply WD.cl1; exact rfl; exact rfl; exact rfl; exact rfl) | (apply W.condT; exact rfl) | (apply W.condF; exact rfl) | (apply W.cond; exact rfl; all_goals intro _) | (apply WO.gT; exact rfl) | (apply WO.gF; exact rfl) | (apply WO.sT; exact rfl) | (apply WO.sF; exact rfl) | (apply WO.sU; exact rfl) | (apply WO.lss; exact rfl; exact rfl; all_goals first | (intro _; exfalso; omega) | intro _) | (apply WO.leq; exact rfl; exact rfl; all_goals first | (intro _; exfalso; omega) | intro _) | (apply WO.gtr; exact rfl; exact rfl; all_goals first | (intro _; exfalso; omega) | intro _) | (apply WO.geq; exact rfl; exact rfl; all_goals first | (intro _; exfalso; omega) | intro _) | (apply WO.eql; exact rfl; exact rfl; all_goals first | (intro _; exfalso; omega) | intro _) | (apply WO.neq; exact rfl; exact rfl; all_goals first | (intro _; exfalso; omega) | intro _) | (apply WO.cvu; exact rfl; omega) | (apply WO.cvi; exact rfl; omega) | (apply WO.shr1; exact rfl) | (apply WO.pkT; exact rfl; exact rfl) | (apply WO.pkF; exact rfl; exact rfl) | (apply WO.add; exact rfl; exact rfl; omega) | (apply WO.sub; exact rfl; exact rfl; omega) | (apply WO.mul; exact rfl; exact rfl; omega) | (apply WO.remp; exact rfl; exact rfl; omega; intro _ _) | (apply WO.remn; exact rfl; exact rfl; omega; intro _ _) | (apply WO.quop; exact rfl; exact rfl; omega; omega; intro _ _) | (apply WO.quon; exact rfl; exact rfl; omega; omega; intro _ _) | (apply WO.rem; exact rfl; exact rfl; omega) | (apply WO.quo; exact rfl; exact rfl; omega; omega) | (apply WO.ct; exact rfl; exact rfl; first | exact c4 | exact c5) | (apply WO.ctn; exact rfl; exact rfl; first | exact c4 | exact c5) | (apply WD.ct; exact rfl; exact rfl; exact rfl; first | exact c4 | exact c5) | (apply WO.iav; exact rfl; exact rfl; omega) | (apply WO.ias; exact rfl; exact rfl; omega) | (apply WO.idx; exact rfl; exact rfl; omega) | (apply WO.mki; exact rfl; exact rfl; omega) | (apply WO.mkb; exact rfl; exact rfl; omega) | (apply WO.lda; exact rfl; exact fun _ => rfl; (first | omega | (simp only [List.length_set]; omega) | (simp; omega)); decide; exact rfl; case ia => infer_instance) | (apply WO.lsa; exact rfl; (first | exact rfl | assumption | exact at_new | (apply at_old; assumption) | (apply at_put; first | assumption | (simp only [put_length]; assumption))); exact fun _ => rfl; (first | omega | (simp only [List.length_set]; omega) | (simp; omega)); decide; exact rfl; case ia => infer_instance) | (apply WO.sta; exact rfl; exact rfl; (first | exact rfl | assumption | exact at_new | (apply at_old; assumption) | (apply at_put; first | assumption | (simp only [put_length]; assumption))); exact fun _ => rfl; (first | omega | (simp only [List.length_set]; omega) | (simp; omega)); exact ⟨rfl, by decide, rfl⟩; exact rfl; case ia => infer_instance) | (apply WO.ldf; exact rfl; exact fun _ => rfl; (first | omega | (simp only [List.length_set]; omega) | (simp; omega)); decide; exact rfl; case ia => infer_instance) | (apply WO.lsf; exact rfl; (first | exact rfl | assumption | exact at_new | (apply at_old; assumption) | (apply at_put; first | assumption | (simp only [put_length]; assumption))); exact fun _ => rfl; (first | omega | (simp only [List.length_set]; omega) | (simp; omega)); decide; exact rfl; case ia => infer_instance) | (apply WO.stf; exact rfl; exact rfl; (first | exact rfl | assumption | exact at_new | (apply at_old; assumption) | (apply at_put; first | assumption | (simp only [put_length]; assumption))); exact fun _ => rfl; (first | omega | (simp only [List.length_set]; omega) | (simp; omega)); exact ⟨rfl, by decide, rfl⟩; exact rfl; case ia => infer_instance) | (apply WO.seql; exact rfl; exact rfl; all_goals first | (intro h; exact absurd h (by decide)) | (intro h; exact absurd rfl h) | (intro h; contradiction) | intro _) | (apply WO.sneq; exact rfl; exact rfl; all_goals first | (intro h; exact absurd h (by decide)) | (intro h; exact absurd rfl h) | (intro h; contradiction) | intro _) | (apply WO.clb; exact rfl; exact rfl; exact rfl; all_goals first | (intro h; exact absurd h (by decide)) | intro _) | (apply WO.cll; exact rfl; exact rfl; exact rfl) | (apply WO.neg; exact rfl; omega) | (apply WO.eqM; exact rfl; exact rfl; all_goals first | (intro h; exact absurd ⟨rfl, rfl, rfl⟩ h) | intro _) | (apply WO.hlv; exact rfl; exact rfl; exact rfl) | (apply WO.hpv; exact rfl; exact rfl; exact rfl) | (apply WO.hnv; exact rfl; exact rfl; exact rfl) | (apply WO.pl; exact rfl; exact rfl) | (apply WO.pp; exact rfl; exact rfl)
end Go.Ab.Ch1


/-
  Own work: slices.SortFunc over fewer than fifty marks leaves them sorted.
-/
namespace Go.Ab.Ch1
open Go.Sort (swp PermIn SortedIn SWO Below)
variable {M : Mach} {h : Heap} {b n : Nat} {cap : Option Nat} {g : AV} {c : Mk → Mk → Int}

set_option maxHeartbeats 2000000 in
theorem loop190 (C : CPd M) (hb : b < h.length) (hn : n < 50) (hc : CmpM M g c) (hS : SWO (ltOf c)) (m : Nat) (hm : Rec M h b n cap g c m) {Q : Ex → StW → Prop} : ∀ (k a e : Nat) (lim : Int) (d : Array Mk) (wb wp : Bool) (a7 a8 a9 a10 a11 a12 a13 a14 a15 : AV) (lo : List (Nat × AV)) (wr : List Nat), e - a ≤ k → k ≤ m → a ≤ e → e ≤ n → 0 ≤ lim → lim ≤ 1000 → d.size = n → Below (ltOf c) a e d → Only b wr →
    (∀ R pe lo wr, PermIn a e d R → SortedIn (ltOf c) a e R → Only b wr → Q .ret ⟨⟨pe, lo, mh h b R.toList, []⟩, wr⟩) →
    W M (.loop b190_0) ⟨⟨[.sl b 0 n 3 cap, .int .i64 a, .int .i64 e, .int .i64 lim, g, .bool wb, .bool wp, a7, a8, a9, a10, a11, a12, a13, a14, a15], lo, mh h b d.toList, []⟩, wr⟩ Q := by
  intro k
  induction k with
  | zero =>
    intro a e lim d wb wp a7 a8 a9 a10 a11 a12 a13 a14 a15 lo wr hk hkm hae he hl0 hl1 hd hB hw hR
    obtain ⟨w1, o1, c1⟩ := r231 (cap := cap) C.toCPq hb (by omega) hc d hd a e (by omega) he
    obtain ⟨s1, s2⟩ := Go.Sort.insertionSort_holds hS d a e hae (by omega)
    refine W.loop ?_
    unfold b190_0
    repeat' first | apply W.seq | apply SQn | apply W.region | apply WO.nil | apply W.block | apply W.ret | apply W.exit | apply W.skip | apply SQr | apply SQe | apply BQn | apply BQr | apply BQe | (apply BQo; exact rfl) | apply LQe | apply LQr | (apply W.drawro; exact rfl) | apply W.draw | apply WD.nil | (apply WD.gT; exact rfl) | (apply WD.gF; exact rfl) | (apply WD.sT; exact rfl) | (apply WD.sF; exact rfl) | (apply WD.sU; exact rfl) | (apply WD.pure1; exact rfl) | (apply WD.load1; exact rfl; exact rfl; exact rfl) | (apply WD.clb; exact rfl; exact rfl; exact rfl; exact rfl; all_goals first | (intro h; exact absurd h (by decide)) | intro _) | (apply WD.cl0; exact rfl; exact rfl; exact rfl; exact rfl) | (apply WD.cl1; exact rfl; exact rfl; exact rfl; exact rfl) | (apply W.condT; exact rfl) | (apply W.condF; exact rfl) | (apply W.cond; exact rfl; all_goals intro _) | (apply WO.gT; exact rfl) | (apply WO.gF; exact rfl) | (apply WO.sT; exact rfl) | (apply WO.sF; exact rfl) | (apply WO.sU; exact rfl) | (apply WO.lss; exact rfl; exact rfl; all_goals first | (intro _; exfalso; omega) | intro _) | (apply WO.leq; exact rfl; exact rfl; all_goals first | (intro _; exfalso; omega) | intro _) | (apply WO.gtr; exact rfl; exact rfl; all_goals first | (intro _; exfalso; omega) | intro _) | (apply WO.geq; exact rfl; exact rfl; all_goals first | (intro _; exfalso; omega) | intro _) | (apply WO.eql; exact rfl; exact rfl; all_goals first | (intro _; exfalso; omega) | intro _) | (apply WO.pkT; exact rfl; exact rfl) | (apply WO.pkF; exact rfl; exact rfl) | (apply WO.add; exact rfl; exact rfl; omega) | (apply WO.sub; exact rfl; exact rfl; omega) | (apply WO.quop; exact rfl; exact rfl; omega; omega; intro _ _) | (apply WO.quon; exact rfl; exact rfl; omega; omega; intro _ _) | (apply WO.quo; exact rfl; exact rfl; omega; omega) | (apply WO.ct; exact rfl; exact rfl; first | exact c1) | (apply WO.ctn; exact rfl; exact rfl; first | exact c1) | (apply WD.ct; exact rfl; exact rfl; exact rfl; first | exact c1) | (apply WO.iav; exact rfl; exact rfl; omega) | (apply WO.ias; exact rfl; exact rfl; omega) | (apply WO.lda; exact rfl; exact fun _ => rfl; (first | omega | (simp only [List.length_set]; omega) | (simp; omega)); decide; exact rfl; case ia => infer_instance) | (apply WO.lsa; exact rfl; (first | exact rfl | assumption | exact at_new | (apply at_old; assumption) | (apply at_put; first | assumption | (simp only [put_length]; assumption))); exact fun _ => rfl; (first | omega | (simp only [List.length_set]; omega) | (simp; omega)); decide; exact rfl; case ia => infer_instance) | (apply WO.seql; exact rfl; exact rfl; all_goals first | (intro h; exact absurd h (by decide)) | (intro h; exact absurd rfl h) | (intro h; contradiction) | intro _) | (apply WO.clb; exact rfl; exact rfl; exact rfl; all_goals first | (intro h; exact absurd h (by decide)) | intro _) | (apply WO.cll; exact rfl; exact rfl; exact rfl) | (apply WO.hlv; exact rfl; exact rfl; exact rfl) | (apply WO.hpv; exact rfl; exact rfl; exact rfl) | (apply WO.hnv; exact rfl; exact rfl; exact rfl) | (apply WO.pl; exact rfl; exact rfl) | (apply WO.pp; exact rfl; exact rfl)
    exact hR _ _ _ _ s1 s2 (o1.app hw)
  | succ k ih =>
    intro a e lim d wb wp a7 a8 a9 a10 a11 a12 a13 a14 a15 lo wr hk hkm hae he hl0 hl1 hd hB hw hR
    refine W.loop ?_
    by_cases h12 : e - a ≤ 12
    · obtain ⟨w1, o1, c1⟩ := r231 (cap := cap) C.toCPq hb (by omega) hc d hd a e (by omega) he
      obtain ⟨s1, s2⟩ := Go.Sort.insertionSort_holds hS d a e hae (by omega)
      unfold b190_0
      repeat' first | apply W.seq | apply SQn | apply W.region | apply WO.nil | apply W.block | apply W.ret | apply W.exit | apply W.skip | apply SQr | apply SQe | apply BQn | apply BQr | apply BQe | (apply BQo; exact rfl) | apply LQe | apply LQr | (apply W.drawro; exact rfl) | apply W.draw | apply WD.nil | (apply WD.gT; exact rfl) | (apply WD.gF; exact rfl) | (apply WD.sT; exact rfl) | (apply WD.sF; exact rfl) | (apply WD.sU; exact rfl) | (apply WD.pure1; exact rfl) | (apply WD.load1; exact rfl; exact rfl; exact rfl) | (apply WD.clb; exact rfl; exact rfl; exact rfl; exact rfl; all_goals first | (intro h; exact absurd h (by decide)) | intro _) | (apply WD.cl0; exact rfl; exact rfl; exact rfl; exact rfl) | (apply WD.cl1; exact rfl; exact rfl; exact rfl; exact rfl) | (apply W.condT; exact rfl) | (apply W.condF; exact rfl) | (apply W.cond; exact rfl; all_goals intro _) | (apply WO.gT; exact rfl) | (apply WO.gF; exact rfl) | (apply WO.sT; exact rfl) | (apply WO.sF; exact rfl) | (apply WO.sU; exact rfl) | (apply WO.lss; exact rfl; exact rfl; all_goals first | (intro _; exfalso; omega) | intro _) | (apply WO.leq; exact rfl; exact rfl; all_goals first | (intro _; exfalso; omega) | intro _) | (apply WO.gtr; exact rfl; exact rfl; all_goals first | (intro _; exfalso; omega) | intro _) | (apply WO.geq; exact rfl; exact rfl; all_goals first | (intro _; exfalso; omega) | intro _) | (apply WO.eql; exact rfl; exact rfl; all_goals first | (intro _; exfalso; omega) | intro _) | (apply WO.pkT; exact rfl; exact rfl) | (apply WO.pkF; exact rfl; exact rfl) | (apply WO.add; exact rfl; exact rfl; omega) | (apply WO.sub; exact rfl; exact rfl; omega) | (apply WO.quop; exact rfl; exact rfl; omega; omega; intro _ _) | (apply WO.quon; exact rfl; exact rfl; omega; omega; intro _ _) | (apply WO.quo; exact rfl; exact rfl; omega; omega) | (apply WO.ct; exact rfl; exact rfl; first | exact c1) | (apply WO.ctn; exact rfl; exact rfl; first | exact c1) | (apply WD.ct; exact rfl; exact rfl; exact rfl; first | exact c1) | (apply WO.iav; exact rfl; exact rfl; omega) | (apply WO.ias; exact rfl; exact rfl; omega) | (apply WO.lda; exact rfl; exact fun _ => rfl; (first | omega | (simp only [List.length_set]; omega) | (simp; omega)); decide; exact rfl; case ia => infer_instance) | (apply WO.lsa; exact rfl; (first | exact rfl | assumption | exact at_new | (apply at_old; assumption) | (apply at_put; first | assumption | (simp only [put_length]; assumption))); exact fun _ => rfl; (first | omega | (simp only [List.length_set]; omega) | (simp; omega)); decide; exact rfl; case ia => infer_instance) | (apply WO.seql; exact rfl; exact rfl; all_goals first | (intro h; exact absurd h (by decide)) | (intro h; exact absurd rfl h) | (intro h; contradiction) | intro _) | (apply WO.clb; exact rfl; exact rfl; exact rfl; all_goals first | (intro h; exact absurd h (by decide)) | intro _) | (apply WO.cll; exact rfl; exact rfl; exact rfl) | (apply WO.hlv; exact rfl; exact rfl; exact rfl) | (apply WO.hpv; exact rfl; exact rfl; exact rfl) | (apply WO.hnv; exact rfl; exact rfl; exact rfl) | (apply WO.pl; exact rfl; exact rfl) | (apply WO.pp; exact rfl; exact rfl)
      exact hR _ _ _ _ s1 s2 (o1.app hw)
    by_cases hl : lim = 0
    · subst hl
      obtain ⟨w1, o1, c1⟩ := r232 (cap := cap) C hb (by omega) hc d hd a e (by omega) he
      obtain ⟨s1, s2⟩ := Go.Sort.heapSort_holds hS d a e hae (by omega)
      unfold b190_0
      repeat' first | apply W.seq | apply SQn | apply W.region | apply WO.nil | apply W.block | apply W.ret | apply W.exit | apply W.skip | apply SQr | apply SQe | apply BQn | apply BQr | apply BQe | (apply BQo; exact rfl) | apply LQe | apply LQr | (apply W.drawro; exact rfl) | apply W.draw | apply WD.nil | (apply WD.gT; exact rfl) | (apply WD.gF; exact rfl) | (apply WD.sT; exact rfl) | (apply WD.sF; exact rfl) | (apply WD.sU; exact rfl) | (apply WD.pure1; exact rfl) | (apply WD.load1; exact rfl; exact rfl; exact rfl) | (apply WD.clb; exact rfl; exact rfl; exact rfl; exact rfl; all_goals first | (intro h; exact absurd h (by decide)) | intro _) | (apply WD.cl0; exact rfl; exact rfl; exact rfl; exact rfl) | (apply WD.cl1; exact rfl; exact rfl; exact rfl; exact rfl) | (apply W.condT; exact rfl) | (apply W.condF; exact rfl) | (apply W.cond; exact rfl; all_goals intro _) | (apply WO.gT; exact rfl) | (apply WO.gF; exact rfl) | (apply WO.sT; exact rfl) | (apply WO.sF; exact rfl) | (apply WO.sU; exact rfl) | (apply WO.lss; exact rfl; exact rfl; all_goals first | (intro _; exfalso; omega) | intro _) | (apply WO.leq; exact rfl; exact rfl; all_goals first | (intro _; exfalso; omega) | intro _) | (apply WO.gtr; exact rfl; exact rfl; all_goals first | (intro _; exfalso; omega) | intro _) | (apply WO.geq; exact rfl; exact rfl; all_goals first | (intro _; exfalso; omega) | intro _) | (apply WO.eql; exact rfl; exact rfl; all_goals first | (intro _; exfalso; omega) | intro _) | (apply WO.pkT; exact rfl; exact rfl) | (apply WO.pkF; exact rfl; exact rfl) | (apply WO.add; exact rfl; exact rfl; omega) | (apply WO.sub; exact rfl; exact rfl; omega) | (apply WO.quop; exact rfl; exact rfl; omega; omega; intro _ _) | (apply WO.quon; exact rfl; exact rfl; omega; omega; intro _ _) | (apply WO.quo; exact rfl; exact rfl; omega; omega) | (apply WO.ct; exact rfl; exact rfl; first | exact c1) | (apply WO.ctn; exact rfl; exact rfl; first | exact c1) | (apply WD.ct; exact rfl; exact rfl; exact rfl; first | exact c1) | (apply WO.iav; exact rfl; exact rfl; omega) | (apply WO.ias; exact rfl; exact rfl; omega) | (apply WO.lda; exact rfl; exact fun _ => rfl; (first | omega | (simp only [List.length_set]; omega) | (simp; omega)); decide; exact rfl; case ia => infer_instance) | (apply WO.lsa; exact rfl; (first | exact rfl | assumption | exact at_new | (apply at_old; assumption) | (apply at_put; first | assumption | (simp only [put_length]; assumption))); exact fun _ => rfl; (first | omega | (simp only [List.length_set]; omega) | (simp; omega)); decide; exact rfl; case ia => infer_instance) | (apply WO.seql; exact rfl; exact rfl; all_goals first | (intro h; exact absurd h (by decide)) | (intro h; exact absurd rfl h) | (intro h; contradiction) | intro _) | (apply WO.clb; exact rfl; exact rfl; exact rfl; all_goals first | (intro h; exact absurd h (by decide)) | intro _) | (apply WO.cll; exact rfl; exact rfl; exact rfl) | (apply WO.hlv; exact rfl; exact rfl; exact rfl) | (apply WO.hpv; exact rfl; exact rfl; exact rfl) | (apply WO.hnv; exact rfl; exact rfl; exact rfl) | (apply WO.pl; exact rfl; exact rfl) | (apply WO.pp; exact rfl; exact rfl)
      exact hR _ _ _ _ s1 s2 (o1.app hw)
    have hrec : Rec M h b n cap g c (e - a) := fun a' e' lim' d' g1 g2 g3 => hm a' e' lim' d' g1 g2 (by omega)
    cases wb
    · obtain ⟨d1, w1, p1, o1, c1⟩ := r233 (cap := cap) (g := g) C hb hn d hd a e (by omega) he
      have hd1 : d1.size = n := by rw [p1.1, hd]
      have hB1 := perm_below hB (by omega) p1
      unfold b190_0
      repeat' first | (refine tail190a C hb hn hc hS a e hrec (lim - 1) (by omega) (by omega) d1 hd1 (by omega) he hB1 _ _ _ _ _ _ _ _ _ _ _ _ (o1.app hw) (fun R pe lo wr h1 h2 h3 => ?_) (fun ex a' e' R wb wp x7 x8 x9 x10 x11 x12 x13 x14 x15 lo wr hex hrest h3 => ?_)) | apply W.seq | apply SQn | apply W.region | apply WO.nil | apply W.block | apply W.ret | apply W.exit | apply W.skip | apply SQr | apply SQe | apply BQn | apply BQr | apply BQe | (apply BQo; exact rfl) | apply LQe | apply LQr | (apply W.drawro; exact rfl) | apply W.draw | apply WD.nil | (apply WD.gT; exact rfl) | (apply WD.gF; exact rfl) | (apply WD.sT; exact rfl) | (apply WD.sF; exact rfl) | (apply WD.sU; exact rfl) | (apply WD.pure1; exact rfl) | (apply WD.load1; exact rfl; exact rfl; exact rfl) | (apply WD.clb; exact rfl; exact rfl; exact rfl; exact rfl; all_goals first | (intro h; exact absurd h (by decide)) | intro _) | (apply WD.cl0; exact rfl; exact rfl; exact rfl; exact rfl) | (apply WD.cl1; exact rfl; exact rfl; exact rfl; exact rfl) | (apply W.condT; exact rfl) | (apply W.condF; exact rfl) | (apply W.cond; exact rfl; all_goals intro _) | (apply WO.gT; exact rfl) | (apply WO.gF; exact rfl) | (apply WO.sT; exact rfl) | (apply WO.sF; exact rfl) | (apply WO.sU; exact rfl) | (apply WO.lss; exact rfl; exact rfl; all_goals first | (intro _; exfalso; omega) | intro _) | (apply WO.leq; exact rfl; exact rfl; all_goals first | (intro _; exfalso; omega) | intro _) | (apply WO.gtr; exact rfl; exact rfl; all_goals first | (intro _; exfalso; omega) | intro _) | (apply WO.geq; exact rfl; exact rfl; all_goals first | (intro _; exfalso; omega) | intro _) | (apply WO.eql; exact rfl; exact rfl; all_goals first | (intro _; exfalso; omega) | intro _) | (apply WO.pkT; exact rfl; exact rfl) | (apply WO.pkF; exact rfl; exact rfl) | (apply WO.add; exact rfl; exact rfl; omega) | (apply WO.sub; exact rfl; exact rfl; omega) | (apply WO.quop; exact rfl; exact rfl; omega; omega; intro _ _) | (apply WO.quon; exact rfl; exact rfl; omega; omega; intro _ _) | (apply WO.quo; exact rfl; exact rfl; omega; omega) | (apply WO.ct; exact rfl; exact rfl; first | exact c1) | (apply WO.ctn; exact rfl; exact rfl; first | exact c1) | (apply WD.ct; exact rfl; exact rfl; exact rfl; first | exact c1) | (apply WO.iav; exact rfl; exact rfl; omega) | (apply WO.ias; exact rfl; exact rfl; omega) | (apply WO.lda; exact rfl; exact fun _ => rfl; (first | omega | (simp only [List.length_set]; omega) | (simp; omega)); decide; exact rfl; case ia => infer_instance) | (apply WO.lsa; exact rfl; (first | exact rfl | assumption | exact at_new | (apply at_old; assumption) | (apply at_put; first | assumption | (simp only [put_length]; assumption))); exact fun _ => rfl; (first | omega | (simp only [List.length_set]; omega) | (simp; omega)); decide; exact rfl; case ia => infer_instance) | (apply WO.seql; exact rfl; exact rfl; all_goals first | (intro h; exact absurd h (by decide)) | (intro h; exact absurd rfl h) | (intro h; contradiction) | intro _) | (apply WO.clb; exact rfl; exact rfl; exact rfl; all_goals first | (intro h; exact absurd h (by decide)) | intro _) | (apply WO.cll; exact rfl; exact rfl; exact rfl) | (apply WO.hlv; exact rfl; exact rfl; exact rfl) | (apply WO.hpv; exact rfl; exact rfl; exact rfl) | (apply WO.hnv; exact rfl; exact rfl; exact rfl) | (apply WO.pl; exact rfl; exact rfl) | (apply WO.pp; exact rfl; exact rfl)
      · exact hR R pe lo wr (Go.Sort.permIn_trans _ _ _ a e p1 h1) h2 h3
      · obtain ⟨r1, r2, r3, r4, r5, r6⟩ := hrest
        have hnext := ih a' e' (lim - 1) R wb wp x7 x8 x9 x10 x11 x12 x13 x14 x15 lo wr (by omega) (by omega) r1 r2 (by omega) (by omega) r4 r5 h3 (fun S pe lo wr s1 s2 s3 => hR S pe lo wr (Go.Sort.permIn_trans _ _ _ a e p1 (r6 S s1 s2).1) (r6 S s1 s2).2 s3)
        rcases hex with rfl | rfl
        · exact BQn (LQn hnext)
        · exact BQe (LQn hnext)
    · unfold b190_0
      repeat' first | (refine tail190a C hb hn hc hS a e hrec lim (by omega) (by omega) d hd (by omega) he hB _ _ _ _ _ _ _ _ _ _ _ _ hw (fun R pe lo wr h1 h2 h3 => ?_) (fun ex a' e' R wb wp x7 x8 x9 x10 x11 x12 x13 x14 x15 lo wr hex hrest h3 => ?_)) | apply W.seq | apply SQn | apply W.region | apply WO.nil | apply W.block | apply W.ret | apply W.exit | apply W.skip | apply SQr | apply SQe | apply BQn | apply BQr | apply BQe | (apply BQo; exact rfl) | apply LQe | apply LQr | (apply W.drawro; exact rfl) | apply W.draw | apply WD.nil | (apply WD.gT; exact rfl) | (apply WD.gF; exact rfl) | (apply WD.sT; exact rfl) | (apply WD.sF; exact rfl) | (apply WD.sU; exact rfl) | (apply WD.pure1; exact rfl) | (apply WD.load1; exact rfl; exact rfl; exact rfl) | (apply WD.clb; exact rfl; exact rfl; exact rfl; exact rfl; all_goals first | (intro h; exact absurd h (by decide)) | intro _) | (apply WD.cl0; exact rfl; exact rfl; exact rfl; exact rfl) | (apply WD.cl1; exact rfl; exact rfl; exact rfl; exact rfl) | (apply W.condT; exact rfl) | (apply W.condF; exact rfl) | (apply W.cond; exact rfl; all_goals intro _) | (apply WO.gT; exact rfl) | (apply WO.gF; exact rfl) | (apply WO.sT; exact rfl) | (apply WO.sF; exact rfl) | (apply WO.sU; exact rfl) | (apply WO.lss; exact rfl; exact rfl; all_goals first | (intro _; exfalso; omega) | intro _) | (apply WO.leq; exact rfl; exact rfl; all_goals first | (intro _; exfalso; omega) | intro _) | (apply WO.gtr; exact rfl; exact rfl; all_goals first | (intro _; exfalso; omega) | intro _) | (apply WO.geq; exact rfl; exact rfl; all_goals first | (intro _; exfalso; omega) | intro _) | (apply WO.eql; exact rfl; exact rfl; all_goals first | (intro _; exfalso; omega) | intro _) | (apply WO.pkT; exact rfl; exact rfl) | (apply WO.pkF; exact rfl; exact rfl) | (apply WO.add; exact rfl; exact rfl; omega) | (apply WO.sub; exact rfl; exact rfl; omega) | (apply WO.quop; exact rfl; exact rfl; omega; omega; intro _ _) | (apply WO.quon; exact rfl; exact rfl; omega; omega; intro _ _) | (apply WO.quo; exact rfl; exact rfl; omega; omega) | (apply WO.iav; exact rfl; exact rfl; omega) | (apply WO.ias; exact rfl; exact rfl; omega) | (apply WO.lda; exact rfl; exact fun _ => rfl; (first | omega | (simp only [List.length_set]; omega) | (simp; omega)); decide; exact rfl; case ia => infer_instance) | (apply WO.lsa; exact rfl; (first | exact rfl | assumption | exact at_new | (apply at_old; assumption) | (apply at_put; first | assumption | (simp only [put_length]; assumption))); exact fun _ => rfl; (first | omega | (simp only [List.length_set]; omega) | (simp; omega)); decide; exact rfl; case ia => infer_instance) | (apply WO.seql; exact rfl; exact rfl; all_goals first | (intro h; exact absurd h (by decide)) | (intro h; exact absurd rfl h) | (intro h; contradiction) | intro _) | (apply WO.clb; exact rfl; exact rfl; exact rfl; all_goals first | (intro h; exact absurd h (by decide)) | intro _) | (apply WO.cll; exact rfl; exact rfl; exact rfl) | (apply WO.hlv; exact rfl; exact rfl; exact rfl) | (apply WO.hpv; exact rfl; exact rfl; exact rfl) | (apply WO.hnv; exact rfl; exact rfl; exact rfl) | (apply WO.pl; exact rfl; exact rfl) | (apply WO.pp; exact rfl; exact rfl)
      · exact hR R pe lo wr h1 h2 h3
      · obtain ⟨r1, r2, r3, r4, r5, r6⟩ := hrest
        have hnext := ih a' e' lim R wb wp x7 x8 x9 x10 x11 x12 x13 x14 x15 lo wr (by omega) (by omega) r1 r2 (by omega) (by omega) r4 r5 h3 (fun S pe lo wr s1 s2 s3 => hR S pe lo wr (r6 S s1 s2).1 (r6 S s1 s2).2 s3)
        rcases hex with rfl | rfl
        · exact BQn (LQn hnext)
        · exact BQe (LQn hnext)

theorem rec190 (C : CPd M) (hb : b < h.length) (hn : n < 50) (hc : CmpM M g c) (hS : SWO (ltOf c)) : ∀ m, Rec M h b n cap g c m := by
  intro m
  induction m with
  | zero => intro a e lim d h1 h2 h3; omega
  | succ m hm =>
    intro a e lim d hae he hlt hl0 hl1 hd hB
    obtain ⟨v, l', wr, ⟨rfl, R, rfl, q1, q2⟩, hw, hct⟩ := run_mhE (M := M) (h := h) (b := b) (l := d.toList) (f := 190) (ars := [.sl b 0 n 3 cap, .int .i64 a, .int .i64 e, .int .i64 lim, g]) (P := fun v l' => v = .tup [] ∧ ∃ R : Array Mk, l' = R.toList ∧ PermIn a e d R ∧ SortedIn (ltOf c) a e R) (by rw [C.ft]; exact ft190) (by simp) C.n190 hb (by rintro v l ⟨rfl, _⟩; rfl) (by
      unfold b190
      simp only [List.map_cons, List.map_nil, List.getElem?_cons_zero, List.getElem?_cons_succ, List.getElem?_nil, Option.getD_some, Option.getD_none]
      repeat' first | apply W.seq | apply SQn | apply W.region | apply WO.nil | apply W.block | apply W.ret | apply W.exit | apply W.skip | apply SQr | apply SQe | apply BQn | apply BQr | apply BQe | (apply BQo; exact rfl) | apply LQe | apply LQr | (apply W.condT; exact rfl) | (apply W.condF; exact rfl) | (apply W.cond; exact rfl; all_goals intro _) | (apply WO.pl; exact rfl; exact rfl) | (apply WO.pp; exact rfl; exact rfl)
      refine loop190 C hb hn hc hS m hm m a e lim d _ _ _ _ _ _ _ _ _ _ _ _ _ (by omega) (Nat.le_refl _) hae he hl0 hl1 hd hB Only.nil (fun R pe lo wr h1 h2 h3 => ?_)
      repeat' first | apply W.seq | apply SQn | apply W.region | apply WO.nil | apply W.block | apply W.ret | apply W.exit | apply W.skip | apply SQr | apply SQe | apply BQn | apply BQr | apply BQe | (apply BQo; exact rfl) | apply LQe | apply LQr | (apply W.condT; exact rfl) | (apply W.condF; exact rfl) | (apply W.cond; exact rfl; all_goals intro _) | (apply WO.pl; exact rfl; exact rfl) | (apply WO.pp; exact rfl; exact rfl)
      exact ⟨.inr rfl, rfl, R.toList, [], (List.append_nil _).symm, OnlyN.only h3, _, rfl, rfl, R, rfl, h1, h2⟩)
    exact ⟨R, wr, q1, q2, hw, hct⟩

theorem sorts49 (C : CPd M) (hc : CmpM M g c) {key : Mk → Int} (hk : ∀ x y, c x y < 0 ↔ key y < key x) : SortsM M g c 49 := by
  intro h b cap l hb hl
  obtain ⟨d, rfl⟩ : ∃ d : Array Mk, d.toList = l := ⟨l.toArray, by simp⟩
  have hl' : d.size ≤ 49 := by simpa using hl
  obtain ⟨r, hr, h191⟩ := r191 C.toCPq d.size (by omega) (mh h b d.toList)
  obtain ⟨R, wr, q1, q2, hw, h190⟩ := rec190 (cap := cap) C hb (show d.size < 50 by omega) hc (swo_of hk) (d.size + 1) 0 d.size r d (Nat.zero_le _) (Nat.le_refl _) (by omega) hr.1 (by omega) rfl (.inl rfl)
  obtain ⟨s1, s2⟩ := sorted_of ⟨q1, q2⟩
  have e : d.toList.length = d.size := by simp
  rw [e]
  have h190' : CT M (fnM 190) [.sl b 0 d.size 3 cap, .int .i64 0, .int .i64 d.size, .int .i64 r, g] (mh h b d.toList) ⟨.tup [], mh h b R.toList, wr⟩ := h190
  obtain ⟨wr', hw', h131⟩ := run_mh (M := M) (l := d.toList) (l' := R.toList) (b := b) (h := h) (f := 131) (ars := [.sl b 0 d.size 3 cap, g]) (by rw [C.ft]; exact ft131) (by simp) C.n131 hb (by
    unfold b131
    simp only [List.map_cons, List.map_nil, List.getElem?_cons_zero, List.getElem?_cons_succ, List.getElem?_nil, Option.getD_some, Option.getD_none]
    repeat' first | apply W.seq | apply SQn | apply W.region | apply WO.nil | apply W.block | apply W.ret | apply W.exit | apply W.skip | apply SQr | apply SQe | apply BQn | apply BQr | apply BQe | (apply BQo; exact rfl) | apply LQe | apply LQr | (apply W.condT; exact rfl) | (apply W.condF; exact rfl) | (apply W.cond; exact rfl; all_goals intro _) | (apply WO.cvu; exact rfl; omega) | (apply WO.ct; exact rfl; exact rfl; first | exact h191 | exact h190') | (apply WO.ctn; exact rfl; exact rfl; first | exact h191 | exact h190') | (apply WD.ct; exact rfl; exact rfl; exact rfl; first | exact h191 | exact h190') | (apply WO.clb; exact rfl; exact rfl; exact rfl; all_goals first | (intro h; exact absurd h (by decide)) | intro _) | (apply WO.cll; exact rfl; exact rfl; exact rfl) | (apply WO.pl; exact rfl; exact rfl) | (apply WO.pp; exact rfl; exact rfl)
    exact ⟨.inl rfl, rfl, _, rfl, hw.app Only.nil, rfl⟩)
  exact ⟨_, wr', hw', s1, s2, h131⟩
end Go.Ab.Ch1


/-
  Own work: the contracts of MarkRanks as a table.
-/
namespace Go.Ab.Ch1
open Go.Proofs

theorem cpd : CPd (mach Tryz.prog FT TRk) where
  ft := mach_ft
  n131 _ _ := rfl
  n190 _ _ := rfl
  n191 _ _ := rfl
  n231 _ _ := rfl
  n240 _ _ := rfl
  n232 _ _ := rfl
  n233 _ _ := rfl
  n234 _ _ := rfl
  n235 _ _ := rfl
  n236 _ _ := rfl
  n237 _ _ := rfl
  n238 _ _ := rfl
  n270 _ _ := rfl
  n271 _ _ := rfl
  n272 _ _ := rfl
  n273 _ _ := rfl
  n274 _ _ := rfl
  n311 _ _ := rfl
theorem sorts_marks : SortsM (mach Tryz.prog FT TRk) (fnM 115) cmpM 30 := fun h b cap l hb hl => sorts49 cpd crk.c115 cmpM_lt h b cap l hb (by omega)
theorem ranks49 : SpecOK Tryz.prog gl 49 (specRanks 30) := ranks49_of (by decide) sorts_marks

def TRanks : List (Nat × Spec) := [(18, specAwake), (34, specBrief), (48, specMarksE), (49, specRanks 30), (50, specRefRanks), (21, spec21)]
theorem TRanks_ok : ExtOK Tryz.prog gl (extS TRanks) := tab_cons awake18 (tab_cons brief34 (tab_cons marks48 (tab_cons ranks49 (tab_cons ranks50 (tab_cons list21 tab_nil)))))
theorem calls7 : Calls7 (mach Tryz.prog FT TRanks) where
  c18 _ := by rw [mach_ext]; rfl
  c34 _ _ := by rw [mach_ext]; rfl
  c48 l cap h hn := by
    rw [mach_ext]
    show specMarksE [.vs (arr cm l) l.length cap] h = _
    simp only [specMarksE, marksAt_vs, if_pos hn]
  c49e l cap h hn hE := by
    rw [mach_ext]
    show specRanks 30 [.vs (arr cm l) l.length cap] h = _
    simp only [specRanks, marksAt_vs, if_pos hn, if_pos hE]
  c49 l cap h hn hE := by
    rw [mach_ext]
    show specRanks 30 [.vs (arr cm l) l.length cap] h = _
    simp only [specRanks, marksAt_vs]
    rw [if_pos (by omega), if_neg (fun h => h hE), if_pos hn]
  c50 l cap h hn hE := by
    rw [mach_ext]
    show specRefRanks [.vs (arr cm l) l.length cap] h = _
    simp only [specRefRanks, marksAt_vs]
    rw [if_pos ⟨hn, hE⟩]
  c21 x y l m e bad h hx hy hl := by
    rw [mach_ext]
    show spec21 [x, .int .i64 e, .int .i64 bad, y] h = _
    simp only [spec21, hx, hy, if_pos hl]
end Go.Ab.Ch1


/-
  Own work: arguments that are slices of marks, as the abstract machine sees them.
-/
namespace Go.Ab.Ch1
open Go.Proofs Go.ChangeShapes Go.WideShapes Go.RowKit

theorem und49 : ∃ f0 f1 f2, Tryz.prog.underlying 49 = some (.struct #[f0, f1, f2]) ∧ f0.type = 9 ∧ f0.offset = 0 ∧ f1.type = 3 ∧ f1.offset = 1 ∧ f2.type = 9 ∧ f2.offset = 2 :=
  ⟨{ name := "Kind", type := 9, offset := 0, embedded := false, tag := "", pkgPath := "", byteOffset := 0 }, { name := "Value", type := 3, offset := 1, embedded := false, tag := "", pkgPath := "", byteOffset := 16 }, { name := "Reason", type := 9, offset := 2, embedded := false, tag := "", pkgPath := "", byteOffset := 24 }, by kernel_rfl, rfl, rfl, rfl, rfl, rfl, rfl⟩
theorem und70 : Tryz.prog.underlying 70 = some (.slice 49) := by kernel_rfl
theorem cells9 : Tryz.prog.cellsOf 9 = 1 := by kernel_rfl
theorem cells3 : Tryz.prog.cellsOf 3 = 1 := by kernel_rfl
theorem cells49 : Tryz.prog.cellsOf 49 = 3 := by kernel_rfl

abbrev mkOf (k : ByteArray) (z : Int) (r : ByteArray) : Mk := (k.data.toList, z, r.data.toList)
set_option maxRecDepth 100000 in
theorem mark_cells {H : Type} {enc : TypeId × Value → H} {W : World} {base : Nat} {sp : Nat → Bool} {hd : Bool} {fuel : Nat} {cs : List Value} {x : DataW H × List MemPlace} (hl : cs.length = 3) (hf : DataW.trod enc Tryz.prog W base sp hd fuel 49 cs = some x) :
    ∃ (k : ByteArray) (z : Int) (r : ByteArray), cs = [.string k, .int .i64 z, .string r] := by
  obtain ⟨f0, f1, f2, hu, e0, o0, e1, o1, e2, o2⟩ := und49
  match cs, hl with
  | [c0, c1, c2], _ =>
    obtain ⟨y0, y1, y2, n, hx, _, t0, t1, t2⟩ := Go.Deep.trod_struct3 hu hf
    simp only [e0, o0, e1, o1, e2, o2, cells9, cells3, List.drop, List.take] at t0 t1 t2
    obtain ⟨k, a0, _⟩ := DataW.trod_string und9 t0
    obtain ⟨z, a1, _⟩ := DataW.trod_int und3 t1
    obtain ⟨r, a2, _⟩ := DataW.trod_string und9 t2
    simp only [List.cons.injEq, and_true] at a0 a1 a2
    subst a0; subst a1; subst a2
    exact ⟨k, z, r, rfl⟩

/-- The cell j of the marks. -/
theorem arr_get (f : Nat → ByteArray × Int × ByteArray) : ∀ (n j : Nat) (x : AV), (arr cm ((List.range n).map fun i => mkOf (f i).1 (f i).2.1 (f i).2.2))[j]? = some x → j < n * 3 ∧ (x = .str (f (j / 3)).1.data.toList ∧ j % 3 = 0 ∨ x = .int .i64 (f (j / 3)).2.1 ∧ j % 3 = 1 ∨ x = .str (f (j / 3)).2.2.data.toList ∧ j % 3 = 2)
  | 0, j, x, h => by simp [arr] at h
  | n + 1, j, x, h => by
    have hl : (arr cm ((List.range n).map fun i => mkOf (f i).1 (f i).2.1 (f i).2.2)).length = n * 3 := by rw [len_cm]; simp
    rw [List.range_succ, List.map_append, arr_append] at h
    rcases Nat.lt_or_ge j (n * 3) with hj | hj
    · rw [List.getElem?_append_left (by omega)] at h
      obtain ⟨h1, h2⟩ := arr_get f n j x h
      exact ⟨by omega, h2⟩
    · rw [List.getElem?_append_right (by omega), hl] at h
      have e : arr cm (List.map (fun i => mkOf (f i).1 (f i).2.1 (f i).2.2) [n]) = [.str (f n).1.data.toList, .int .i64 (f n).2.1, .str (f n).2.2.data.toList] := rfl
      rw [e] at h
      have hlt : j - n * 3 < 3 := by
        have := (List.getElem?_eq_some_iff.1 h).1
        simpa using this
      have hq : j / 3 = n := by omega
      refine ⟨by omega, ?_⟩
      rw [hq]
      rcases (show j - n * 3 = 0 ∨ j - n * 3 = 1 ∨ j - n * 3 = 2 by omega) with h0 | h0 | h0
      · rw [h0] at h; simp at h; exact .inl ⟨h.symm, by omega⟩
      · rw [h0] at h; simp at h; exact .inr (.inl ⟨h.symm, by omega⟩)
      · rw [h0] at h; simp at h; exact .inr (.inr ⟨h.symm, by omega⟩)

set_option maxRecDepth 100000 in
theorem v_marks {H : Type} {enc : TypeId × Value → H} {W : World} {base : Nat} {sp : Nat → Bool} {v : Value} {d : DataW H} {ps : List MemPlace} (hval : Value.okWide Tryz.prog W .any base 70 v) (h : DataW.Trod enc Tryz.prog W 0 sp true 70 v d ps) : ∃ l : List Mk, V bare W (.vs (arr cm l) l.length none) v := by
  obtain ⟨a0, len0, cap0, rfl⟩ := okWide_slice und70 hval
  obtain ⟨fuel, hf⟩ := h
  rcases Go.Deep.open_slice und70 hf with ⟨hcs, _⟩ | ⟨a, len, cap, m, n, D, Pl, hcs, _, hle, _, hm, _, hall⟩
  · simp only [Value.cells, List.cons.injEq, Value.slice.injEq, and_true] at hcs
    obtain ⟨rfl, rfl, rfl⟩ := hcs
    exact ⟨[], .vsN (fun n hn => by cases hn)⟩
  · simp only [Value.cells, List.cons.injEq, Value.slice.injEq, and_true] at hcs
    obtain ⟨rfl, rfl, rfl⟩ := hcs
    have hs : a.spot = none := by
      simp only [Value.okWide, und70, Cell.okWide, Cell.ok, World.has] at hval
      exact hval.2.2.2.1
    obtain ⟨b, off, spot⟩ := a
    simp only at hs
    subst hs
    have hlen : len0 ≤ m := by rw [hm]; split <;> omega
    have hex : ∀ i, ∃ t : ByteArray × Int × ByteArray, i < len0 → W.cell? ⟨b, off + i * 3, none⟩ = some (.string t.1) ∧ W.cell? ⟨b, off + i * 3 + 1, none⟩ = some (.int .i64 t.2.1) ∧ W.cell? ⟨b, off + i * 3 + 2, none⟩ = some (.string t.2.2) := fun i => by
      by_cases hi : i < len0
      · obtain ⟨cs', h1, h2⟩ := hall i (by omega)
        rw [cells49] at h1
        obtain ⟨_, hl3, hc⟩ := World.cells?_some h1
        obtain ⟨k, z, r, rfl⟩ := mark_cells hl3 h2
        refine ⟨(k, z, r), fun _ => ?_⟩
        have c0 := hc 0 (by omega)
        have c1 := hc 1 (by omega)
        have c2 := hc 2 (by omega)
        rw [add_plain, add_plain] at c0 c1 c2
        exact ⟨c0, c1, c2⟩
      · exact ⟨(⟨#[]⟩, 0, ⟨#[]⟩), fun h => absurd h hi⟩
    obtain ⟨f, hf'⟩ := Classical.axiomOfChoice hex
    refine ⟨(List.range len0).map fun i => mkOf (f i).1 (f i).2.1 (f i).2.2, ?_⟩
    have el : ((List.range len0).map fun i => mkOf (f i).1 (f i).2.1 (f i).2.2).length = len0 := by simp
    rw [el]
    refine .vs b off (fun j => if j % 3 = 0 then .string (f (j / 3)).1 else if j % 3 = 1 then .int .i64 (f (j / 3)).2.1 else .string (f (j / 3)).2.2) (fun _ => free_bare) hle (fun n hn => by cases hn) (fun j hj => ?_) (fun j x hx => ?_)
    · rw [len_cm, el] at hj
      obtain ⟨g0, g1, g2⟩ := hf' (j / 3) (by omega)
      rcases (show j % 3 = 0 ∨ j % 3 = 1 ∨ j % 3 = 2 by omega) with h0 | h0 | h0
      · rw [if_pos h0, show off + j = off + j / 3 * 3 by omega]; exact g0
      · rw [if_neg (by omega), if_pos h0, show off + j = off + j / 3 * 3 + 1 by omega]; exact g1
      · rw [if_neg (by omega), if_neg (by omega), show off + j = off + j / 3 * 3 + 2 by omega]; exact g2
    · obtain ⟨_, hx'⟩ := arr_get f len0 j x hx
      rcases hx' with ⟨rfl, h0⟩ | ⟨rfl, h0⟩ | ⟨rfl, h0⟩
      · rw [if_pos h0]; exact V.str' _
      · rw [if_neg (by omega), if_pos h0]; exact .int _ _
      · rw [if_neg (by omega), if_neg (by omega)]; exact V.str' _
end Go.Ab.Ch1

