/-
  Own work: the other functions of MarkDraws: what they compute.
-/
import Derived.Test.YtcjphdmkgmkabaaGreatDoorLib4
import Derived.Test.YtcjphdmkgmkabaaGreatDoorLib3
namespace Go.Ab.Ch1
open Go.Ab.Sort
variable {M : Mach}

/-! stadionref01.Draw; mark.Draw's error. -/
theorem body22_0 (n : Nat) (hn : n ≤ 1000000) (a0 a2 a5 a6 : AV) (df : List Nat) {Q : Ex → StW → Prop} : ∀ (r i : Nat), i + r = n → ∀ (l : List Int) (lo : List (Nat × AV)) (wr : List Nat), l.length = n →
    (∀ lo wr, Q (.exit 0) ⟨⟨[a0, .int .i64 n, a2, .sl 0 0 n 1 (some n), .int .i64 n, a5, a6], lo, [some (.cells (ints (l.take i ++ (List.range' i r).map Int.ofNat)) 3)], df⟩, wr⟩) →
    W M (.loop b22_0) ⟨⟨[a0, .int .i64 n, a2, .sl 0 0 n 1 (some n), .int .i64 i, a5, a6], lo, [some (.cells (ints l) 3)], df⟩, wr⟩ Q
  | 0, i, hi, l, lo, wr, hl, hQ => by
    obtain rfl : i = n := by omega
    rw [List.range'_zero, List.map_nil, List.append_nil, List.take_of_length_le (by omega)] at hQ
    refine W.loop ?_
    unfold b22_0
    repeat' first
      | apply W.seq
      | apply SQn
      | apply W.region
      | apply WO.nil
      | apply W.block
      | apply W.ret
      | apply W.exit
      | apply W.skip
      | apply SQr
      | apply SQe
      | apply BQn
      | apply BQr
      | apply BQe
      | (apply BQo; exact rfl)
      | apply LQe
      | apply LQr
      | (apply W.condT; exact rfl)
      | (apply W.condF; exact rfl)
      | (apply W.cond; exact rfl; all_goals intro _)
      | (apply WO.lss; exact rfl; exact rfl; all_goals first | (intro _; exfalso; omega) | intro _)
      | (apply WO.add; exact rfl; exact rfl; omega)
      | (apply WO.iav; exact rfl; exact rfl; omega)
      | (apply WO.ias; exact rfl; exact rfl; omega)
      | (apply WO.sta; exact rfl; exact rfl; (first | exact rfl | assumption | exact at_new | (apply at_old; assumption) | (apply at_put; first | assumption | (simp only [put_length]; assumption))); exact fun _ => rfl; (first | omega | (simp only [List.length_set]; omega) | (simp; omega)); exact ⟨rfl, by decide, rfl⟩; exact rfl; case ia => infer_instance)
      | (apply WO.hlv; exact rfl; exact rfl; exact rfl)
      | (apply WO.hpv; exact rfl; exact rfl; exact rfl)
      | (apply WO.hnv; exact rfl; exact rfl; exact rfl)
      | (apply WO.pl; exact rfl; exact rfl)
      | (apply WO.pp; exact rfl; exact rfl)
    · exact hQ _ _
  | r + 1, i, hi, l, lo, wr, hl, hQ => by
    refine W.loop ?_
    unfold b22_0
    repeat' first
      | apply W.seq
      | apply SQn
      | apply W.region
      | apply WO.nil
      | apply W.block
      | apply W.ret
      | apply W.exit
      | apply W.skip
      | apply SQr
      | apply SQe
      | apply BQn
      | apply BQr
      | apply BQe
      | (apply BQo; exact rfl)
      | apply LQe
      | apply LQr
      | (apply W.condT; exact rfl)
      | (apply W.condF; exact rfl)
      | (apply W.cond; exact rfl; all_goals intro _)
      | (apply WO.lss; exact rfl; exact rfl; all_goals first | (intro _; exfalso; omega) | intro _)
      | (apply WO.add; exact rfl; exact rfl; omega)
      | (apply WO.iav; exact rfl; exact rfl; omega)
      | (apply WO.ias; exact rfl; exact rfl; omega)
      | (apply WO.sta; exact rfl; exact rfl; (first | exact rfl | assumption | exact at_new | (apply at_old; assumption) | (apply at_put; first | assumption | (simp only [put_length]; assumption))); exact fun _ => rfl; (first | omega | (simp only [List.length_set]; omega) | (simp; omega)); exact ⟨rfl, by decide, rfl⟩; exact rfl; case ia => infer_instance)
      | (apply WO.hlv; exact rfl; exact rfl; exact rfl)
      | (apply WO.hpv; exact rfl; exact rfl; exact rfl)
      | (apply WO.hnv; exact rfl; exact rfl; exact rfl)
      | (apply WO.pl; exact rfl; exact rfl)
      | (apply WO.pp; exact rfl; exact rfl)
    · refine LQn (body22_0 n hn a0 a2 a5 a6 df r (i + 1) (by omega) (l.set i (i : Int)) _ _ (by simp [hl]) fun lo wr => ?_)
      have e : (l.set i (i : Int)).take (i + 1) ++ (List.range' (i + 1) r).map Int.ofNat = l.take i ++ (List.range' i (r + 1)).map Int.ofNat := by
        have t1 : (l.set i (i : Int)).take (i + 1) = l.take i ++ [(i : Int)] := by
          rw [List.take_add_one, List.take_set_of_le (Nat.le_refl _), List.getElem?_set]
          simp [hl]; omega
        rw [t1, List.range'_succ]
        simp
      rw [e]
      exact hQ lo wr

set_option maxHeartbeats 2000000 in
theorem body22_1 (n : Nat) (hn : n ≤ 1000000) (N a2 a4 : AV) (df : List Nat) {Q : Ex → StW → Prop} : ∀ (i : Nat), (i < n ∨ i = 0) → ∀ (key : Int) (l : List Int) (a6 : AV) (lo : List (Nat × AV)) (wr : List Nat), l.length = n → 0 ≤ key → key < 2147483647 →
    (∀ key' a6 lo wr, Q (.exit 2) ⟨⟨[.int .i64 key', N, a2, .sl 0 0 n 1 (some n), a4, .int .i64 0, a6], lo, [some (.cells (ints (shuf i key l)) 3)], df⟩, wr⟩) →
    W M (.loop b22_1) ⟨⟨[.int .i64 key, N, a2, .sl 0 0 n 1 (some n), a4, .int .i64 i, a6], lo, [some (.cells (ints l) 3)], df⟩, wr⟩ Q
  | 0, hi, key, l, a6, lo, wr, hl, hk0, hk1, hQ => by
    refine W.loop ?_
    unfold b22_1
    repeat' first
      | apply W.seq
      | apply SQn
      | apply W.region
      | apply WO.nil
      | apply W.block
      | apply W.ret
      | apply W.exit
      | apply W.skip
      | apply SQr
      | apply SQe
      | apply BQn
      | apply BQr
      | apply BQe
      | (apply BQo; exact rfl)
      | apply LQe
      | apply LQr
      | (apply W.drawro; exact rfl)
      | apply W.draw
      | apply WD.nil
      | (apply WD.gT; exact rfl)
      | (apply WD.gF; exact rfl)
      | (apply WD.sT; exact rfl)
      | (apply WD.sF; exact rfl)
      | (apply WD.sU; exact rfl)
      | (apply WD.pure1; exact rfl)
      | (apply WD.load1; exact rfl; exact rfl; exact rfl)
      | (apply WD.store1; exact rfl; exact rfl; exact rfl)
      | (apply W.condT; exact rfl)
      | (apply W.condF; exact rfl)
      | (apply W.cond; exact rfl; all_goals intro _)
      | (apply WO.geq; exact rfl; exact rfl; all_goals first | (intro _; exfalso; omega) | intro _)
      | (apply WO.add; exact rfl; exact rfl; omega)
      | (apply WO.sub; exact rfl; exact rfl; omega)
      | (apply WO.mul; exact rfl; exact rfl; omega)
      | (apply WO.remp; exact rfl; exact rfl; omega; intro _ _)
      | (apply WO.remn; exact rfl; exact rfl; omega; intro _ _)
      | (apply WO.rem; exact rfl; exact rfl; omega)
      | (apply WO.iav; exact rfl; exact rfl; omega)
      | (apply WO.ias; exact rfl; exact rfl; omega)
      | (apply WO.lda; exact rfl; exact fun _ => rfl; (first | omega | (simp only [List.length_set]; omega) | (simp; omega)); decide; exact rfl; case ia => infer_instance)
      | (apply WO.lsa; exact rfl; (first | exact rfl | assumption | exact at_new | (apply at_old; assumption) | (apply at_put; first | assumption | (simp only [put_length]; assumption))); exact fun _ => rfl; (first | omega | (simp only [List.length_set]; omega) | (simp; omega)); decide; exact rfl; case ia => infer_instance)
      | (apply WO.sta; exact rfl; exact rfl; (first | exact rfl | assumption | exact at_new | (apply at_old; assumption) | (apply at_put; first | assumption | (simp only [put_length]; assumption))); exact fun _ => rfl; (first | omega | (simp only [List.length_set]; omega) | (simp; omega)); exact ⟨rfl, by decide, rfl⟩; exact rfl; case ia => infer_instance)
      | (apply WO.hlv; exact rfl; exact rfl; exact rfl)
      | (apply WO.hpv; exact rfl; exact rfl; exact rfl)
      | (apply WO.hnv; exact rfl; exact rfl; exact rfl)
      | (apply WO.pl; exact rfl; exact rfl)
      | (apply WO.pp; exact rfl; exact rfl)
    · exact hQ _ _ _ _
  | i + 1, hi, key, l, a6, lo, wr, hl, hk0, hk1, hQ => by
    refine W.loop ?_
    unfold b22_1
    repeat' first
      | apply W.seq
      | apply SQn
      | apply W.region
      | apply WO.nil
      | apply W.block
      | apply W.ret
      | apply W.exit
      | apply W.skip
      | apply SQr
      | apply SQe
      | apply BQn
      | apply BQr
      | apply BQe
      | (apply BQo; exact rfl)
      | apply LQe
      | apply LQr
      | (apply W.drawro; exact rfl)
      | apply W.draw
      | apply WD.nil
      | (apply WD.gT; exact rfl)
      | (apply WD.gF; exact rfl)
      | (apply WD.sT; exact rfl)
      | (apply WD.sF; exact rfl)
      | (apply WD.sU; exact rfl)
      | (apply WD.pure1; exact rfl)
      | (apply WD.load1; exact rfl; exact rfl; exact rfl)
      | (apply WD.store1; exact rfl; exact rfl; exact rfl)
      | (apply W.condT; exact rfl)
      | (apply W.condF; exact rfl)
      | (apply W.cond; exact rfl; all_goals intro _)
      | (apply WO.geq; exact rfl; exact rfl; all_goals first | (intro _; exfalso; omega) | intro _)
      | (apply WO.add; exact rfl; exact rfl; omega)
      | (apply WO.sub; exact rfl; exact rfl; omega)
      | (apply WO.mul; exact rfl; exact rfl; omega)
      | (apply WO.remp; exact rfl; exact rfl; omega; intro _ _)
      | (apply WO.remn; exact rfl; exact rfl; omega; intro _ _)
      | (apply WO.rem; exact rfl; exact rfl; omega)
      | (apply WO.iav; exact rfl; exact rfl; omega)
      | (apply WO.ias; exact rfl; exact rfl; omega)
      | (apply WO.lda; exact rfl; exact fun _ => rfl; (first | omega | (simp only [List.length_set]; omega) | (simp; omega)); decide; exact rfl; case ia => infer_instance)
      | (apply WO.lsa; exact rfl; (first | exact rfl | assumption | exact at_new | (apply at_old; assumption) | (apply at_put; first | assumption | (simp only [put_length]; assumption))); exact fun _ => rfl; (first | omega | (simp only [List.length_set]; omega) | (simp; omega)); decide; exact rfl; case ia => infer_instance)
      | (apply WO.sta; exact rfl; exact rfl; (first | exact rfl | assumption | exact at_new | (apply at_old; assumption) | (apply at_put; first | assumption | (simp only [put_length]; assumption))); exact fun _ => rfl; (first | omega | (simp only [List.length_set]; omega) | (simp; omega)); exact ⟨rfl, by decide, rfl⟩; exact rfl; case ia => infer_instance)
      | (apply WO.hlv; exact rfl; exact rfl; exact rfl)
      | (apply WO.hpv; exact rfl; exact rfl; exact rfl)
      | (apply WO.hnv; exact rfl; exact rfl; exact rfl)
      | (apply WO.pl; exact rfl; exact rfl)
      | (apply WO.pp; exact rfl; exact rfl)
    · refine LQn ?_
      rw [show ((i + 1 : Nat) : Int) - 1 = (i : Int) from by omega]
      exact body22_1 n hn N a2 a4 df i (by omega) (lcg key) ((l.set (i + 1) l[(slot (i + 1) key).toNat]!).set (slot (i + 1) key).toNat l[i + 1]!) _ _ _ (by simp [hl]) (by assumption) (by assumption) hQ

set_option maxHeartbeats 2000000 in
theorem w22 (hft : M.FT = FT) (key : Int) (n : Nat) (hk0 : 1 ≤ key) (hk1 : key ≤ 2147483646) (hn : n ≤ 256) :
    Run M 22 [.int .i64 key, .int .i64 n] [] ⟨.sl 0 0 n 1 (some n), [some (.cells (ints (shuf (n - 1) key (upto n))) 3)], []⟩ := by
  refine run_of_W (by rw [hft]; exact ft22) (by simp) ?_
  unfold b22
  simp only [List.map_cons, List.map_nil, List.getElem?_cons_zero, List.getElem?_cons_succ, List.getElem?_nil, Option.getD_some, Option.getD_none]
  repeat' first
    | apply W.seq
    | apply SQn
    | apply W.region
    | apply WO.nil
    | apply W.block
    | apply W.ret
    | apply W.exit
    | apply W.skip
    | apply SQr
    | apply SQe
    | apply BQn
    | apply BQr
    | apply BQe
    | (apply BQo; exact rfl)
    | apply LQe
    | apply LQr
    | (apply W.drawro; exact rfl)
    | apply W.draw
    | apply WD.nil
    | (apply WD.gT; exact rfl)
    | (apply WD.gF; exact rfl)
    | (apply WD.sT; exact rfl)
    | (apply WD.sF; exact rfl)
    | (apply WD.sU; exact rfl)
    | (apply WD.pure1; exact rfl)
    | (apply WD.load1; exact rfl; exact rfl; exact rfl)
    | (apply WD.store1; exact rfl; exact rfl; exact rfl)
    | (apply WD.new1; exact rfl)
    | (apply W.condT; exact rfl)
    | (apply W.condF; exact rfl)
    | (apply W.cond; exact rfl; all_goals intro _)
    | (apply WO.geq; exact rfl; exact rfl; all_goals first | (intro _; exfalso; omega) | intro _)
    | (apply WO.add; exact rfl; exact rfl; omega)
    | (apply WO.sub; exact rfl; exact rfl; omega)
    | (apply WO.mul; exact rfl; exact rfl; omega)
    | (apply WO.remp; exact rfl; exact rfl; omega; intro _ _)
    | (apply WO.remn; exact rfl; exact rfl; omega; intro _ _)
    | (apply WO.rem; exact rfl; exact rfl; omega)
    | (apply WO.iav; exact rfl; exact rfl; omega)
    | (apply WO.ias; exact rfl; exact rfl; omega)
    | (apply WO.mki; exact rfl; exact rfl; omega)
    | (apply WO.mkb; exact rfl; exact rfl; omega)
    | (apply WO.lda; exact rfl; exact fun _ => rfl; (first | omega | (simp only [List.length_set]; omega) | (simp; omega)); decide; exact rfl; case ia => infer_instance)
    | (apply WO.lsa; exact rfl; (first | exact rfl | assumption | exact at_new | (apply at_old; assumption) | (apply at_put; first | assumption | (simp only [put_length]; assumption))); exact fun _ => rfl; (first | omega | (simp only [List.length_set]; omega) | (simp; omega)); decide; exact rfl; case ia => infer_instance)
    | (apply WO.sta; exact rfl; exact rfl; (first | exact rfl | assumption | exact at_new | (apply at_old; assumption) | (apply at_put; first | assumption | (simp only [put_length]; assumption))); exact fun _ => rfl; (first | omega | (simp only [List.length_set]; omega) | (simp; omega)); exact ⟨rfl, by decide, rfl⟩; exact rfl; case ia => infer_instance)
    | (apply WO.hlv; exact rfl; exact rfl; exact rfl)
    | (apply WO.hpv; exact rfl; exact rfl; exact rfl)
    | (apply WO.hnv; exact rfl; exact rfl; exact rfl)
    | (apply WO.pl; exact rfl; exact rfl)
    | (apply WO.pp; exact rfl; exact rfl)
  refine body22_0 n (by omega) _ _ _ _ _ n 0 (by omega) (List.replicate n 0) _ _ (by simp) (fun lo wr => ?_)
  have e0 : List.take 0 (List.replicate n (0 : Int)) ++ (List.range' 0 n).map Int.ofNat = upto n := by simp [upto, List.range_eq_range']
  rw [e0]
  repeat' first
    | apply W.seq
    | apply SQn
    | apply W.region
    | apply WO.nil
    | apply W.block
    | apply W.ret
    | apply W.exit
    | apply W.skip
    | apply SQr
    | apply SQe
    | apply BQn
    | apply BQr
    | apply BQe
    | (apply BQo; exact rfl)
    | apply LQe
    | apply LQr
    | (apply W.drawro; exact rfl)
    | apply W.draw
    | apply WD.nil
    | (apply WD.gT; exact rfl)
    | (apply WD.gF; exact rfl)
    | (apply WD.sT; exact rfl)
    | (apply WD.sF; exact rfl)
    | (apply WD.sU; exact rfl)
    | (apply WD.pure1; exact rfl)
    | (apply WD.load1; exact rfl; exact rfl; exact rfl)
    | (apply WD.store1; exact rfl; exact rfl; exact rfl)
    | (apply WD.new1; exact rfl)
    | (apply W.condT; exact rfl)
    | (apply W.condF; exact rfl)
    | (apply W.cond; exact rfl; all_goals intro _)
    | (apply WO.geq; exact rfl; exact rfl; all_goals first | (intro _; exfalso; omega) | intro _)
    | (apply WO.add; exact rfl; exact rfl; omega)
    | (apply WO.sub; exact rfl; exact rfl; omega)
    | (apply WO.mul; exact rfl; exact rfl; omega)
    | (apply WO.remp; exact rfl; exact rfl; omega; intro _ _)
    | (apply WO.remn; exact rfl; exact rfl; omega; intro _ _)
    | (apply WO.rem; exact rfl; exact rfl; omega)
    | (apply WO.iav; exact rfl; exact rfl; omega)
    | (apply WO.ias; exact rfl; exact rfl; omega)
    | (apply WO.mki; exact rfl; exact rfl; omega)
    | (apply WO.mkb; exact rfl; exact rfl; omega)
    | (apply WO.lda; exact rfl; exact fun _ => rfl; (first | omega | (simp only [List.length_set]; omega) | (simp; omega)); decide; exact rfl; case ia => infer_instance)
    | (apply WO.lsa; exact rfl; (first | exact rfl | assumption | exact at_new | (apply at_old; assumption) | (apply at_put; first | assumption | (simp only [put_length]; assumption))); exact fun _ => rfl; (first | omega | (simp only [List.length_set]; omega) | (simp; omega)); decide; exact rfl; case ia => infer_instance)
    | (apply WO.sta; exact rfl; exact rfl; (first | exact rfl | assumption | exact at_new | (apply at_old; assumption) | (apply at_put; first | assumption | (simp only [put_length]; assumption))); exact fun _ => rfl; (first | omega | (simp only [List.length_set]; omega) | (simp; omega)); exact ⟨rfl, by decide, rfl⟩; exact rfl; case ia => infer_instance)
    | (apply WO.hlv; exact rfl; exact rfl; exact rfl)
    | (apply WO.hpv; exact rfl; exact rfl; exact rfl)
    | (apply WO.hnv; exact rfl; exact rfl; exact rfl)
    | (apply WO.pl; exact rfl; exact rfl)
    | (apply WO.pp; exact rfl; exact rfl)
  rcases Nat.eq_zero_or_pos n with h0 | h0
  · subst h0
    refine W.loop ?_
    unfold b22_1
    repeat' first
      | apply W.seq
      | apply SQn
      | apply W.region
      | apply WO.nil
      | apply W.block
      | apply W.ret
      | apply W.exit
      | apply W.skip
      | apply SQr
      | apply SQe
      | apply BQn
      | apply BQr
      | apply BQe
      | (apply BQo; exact rfl)
      | apply LQe
      | apply LQr
      | (apply W.drawro; exact rfl)
      | apply W.draw
      | apply WD.nil
      | (apply WD.gT; exact rfl)
      | (apply WD.gF; exact rfl)
      | (apply WD.sT; exact rfl)
      | (apply WD.sF; exact rfl)
      | (apply WD.sU; exact rfl)
      | (apply WD.pure1; exact rfl)
      | (apply WD.load1; exact rfl; exact rfl; exact rfl)
      | (apply WD.store1; exact rfl; exact rfl; exact rfl)
      | (apply WD.new1; exact rfl)
      | (apply W.condT; exact rfl)
      | (apply W.condF; exact rfl)
      | (apply W.cond; exact rfl; all_goals intro _)
      | (apply WO.geq; exact rfl; exact rfl; all_goals first | (intro _; exfalso; omega) | intro _)
      | (apply WO.add; exact rfl; exact rfl; omega)
      | (apply WO.sub; exact rfl; exact rfl; omega)
      | (apply WO.mul; exact rfl; exact rfl; omega)
      | (apply WO.remp; exact rfl; exact rfl; omega; intro _ _)
      | (apply WO.remn; exact rfl; exact rfl; omega; intro _ _)
      | (apply WO.rem; exact rfl; exact rfl; omega)
      | (apply WO.iav; exact rfl; exact rfl; omega)
      | (apply WO.ias; exact rfl; exact rfl; omega)
      | (apply WO.mki; exact rfl; exact rfl; omega)
      | (apply WO.mkb; exact rfl; exact rfl; omega)
      | (apply WO.lda; exact rfl; exact fun _ => rfl; (first | omega | (simp only [List.length_set]; omega) | (simp; omega)); decide; exact rfl; case ia => infer_instance)
      | (apply WO.lsa; exact rfl; (first | exact rfl | assumption | exact at_new | (apply at_old; assumption) | (apply at_put; first | assumption | (simp only [put_length]; assumption))); exact fun _ => rfl; (first | omega | (simp only [List.length_set]; omega) | (simp; omega)); decide; exact rfl; case ia => infer_instance)
      | (apply WO.sta; exact rfl; exact rfl; (first | exact rfl | assumption | exact at_new | (apply at_old; assumption) | (apply at_put; first | assumption | (simp only [put_length]; assumption))); exact fun _ => rfl; (first | omega | (simp only [List.length_set]; omega) | (simp; omega)); exact ⟨rfl, by decide, rfl⟩; exact rfl; case ia => infer_instance)
      | (apply WO.hlv; exact rfl; exact rfl; exact rfl)
      | (apply WO.hpv; exact rfl; exact rfl; exact rfl)
      | (apply WO.hnv; exact rfl; exact rfl; exact rfl)
      | (apply WO.pl; exact rfl; exact rfl)
      | (apply WO.pp; exact rfl; exact rfl)
    · exact ⟨.inr rfl, rfl, _, rfl, rfl, rfl⟩
  · rw [show (n : Int) - 1 = ((n - 1 : Nat) : Int) from by omega]
    refine body22_1 n (by omega) _ _ _ _ (n - 1) (by omega) key (upto n) _ _ _ (by simp [upto]) (by omega) (by omega) (fun key' a6 lo wr => ?_)
    repeat' first
      | apply W.seq
      | apply SQn
      | apply W.region
      | apply WO.nil
      | apply W.block
      | apply W.ret
      | apply W.exit
      | apply W.skip
      | apply SQr
      | apply SQe
      | apply BQn
      | apply BQr
      | apply BQe
      | (apply BQo; exact rfl)
      | apply LQe
      | apply LQr
      | (apply W.drawro; exact rfl)
      | apply W.draw
      | apply WD.nil
      | (apply WD.gT; exact rfl)
      | (apply WD.gF; exact rfl)
      | (apply WD.sT; exact rfl)
      | (apply WD.sF; exact rfl)
      | (apply WD.sU; exact rfl)
      | (apply WD.pure1; exact rfl)
      | (apply WD.load1; exact rfl; exact rfl; exact rfl)
      | (apply WD.store1; exact rfl; exact rfl; exact rfl)
      | (apply WD.new1; exact rfl)
      | (apply W.condT; exact rfl)
      | (apply W.condF; exact rfl)
      | (apply W.cond; exact rfl; all_goals intro _)
      | (apply WO.geq; exact rfl; exact rfl; all_goals first | (intro _; exfalso; omega) | intro _)
      | (apply WO.add; exact rfl; exact rfl; omega)
      | (apply WO.sub; exact rfl; exact rfl; omega)
      | (apply WO.mul; exact rfl; exact rfl; omega)
      | (apply WO.remp; exact rfl; exact rfl; omega; intro _ _)
      | (apply WO.remn; exact rfl; exact rfl; omega; intro _ _)
      | (apply WO.rem; exact rfl; exact rfl; omega)
      | (apply WO.iav; exact rfl; exact rfl; omega)
      | (apply WO.ias; exact rfl; exact rfl; omega)
      | (apply WO.mki; exact rfl; exact rfl; omega)
      | (apply WO.mkb; exact rfl; exact rfl; omega)
      | (apply WO.lda; exact rfl; exact fun _ => rfl; (first | omega | (simp only [List.length_set]; omega) | (simp; omega)); decide; exact rfl; case ia => infer_instance)
      | (apply WO.lsa; exact rfl; (first | exact rfl | assumption | exact at_new | (apply at_old; assumption) | (apply at_put; first | assumption | (simp only [put_length]; assumption))); exact fun _ => rfl; (first | omega | (simp only [List.length_set]; omega) | (simp; omega)); decide; exact rfl; case ia => infer_instance)
      | (apply WO.sta; exact rfl; exact rfl; (first | exact rfl | assumption | exact at_new | (apply at_old; assumption) | (apply at_put; first | assumption | (simp only [put_length]; assumption))); exact fun _ => rfl; (first | omega | (simp only [List.length_set]; omega) | (simp; omega)); exact ⟨rfl, by decide, rfl⟩; exact rfl; case ia => infer_instance)
      | (apply WO.hlv; exact rfl; exact rfl; exact rfl)
      | (apply WO.hpv; exact rfl; exact rfl; exact rfl)
      | (apply WO.hnv; exact rfl; exact rfl; exact rfl)
      | (apply WO.pl; exact rfl; exact rfl)
      | (apply WO.pp; exact rfl; exact rfl)
    exact ⟨.inr rfl, rfl, _, rfl, rfl, by simp [AV.top]⟩

theorem w19e (hft : M.FT = FT) (h95 : ∀ x lo hi h, M.ext 95 [.int .i64 x, .int .i64 lo, .int .i64 hi] h = some ⟨.bool (decide (x < lo) || decide (hi < x)), h, []⟩) (key n : Int) (hb : key < 1 ∨ 2147483646 < key ∨ n < 0 ∨ 256 < n) :
    Run M 19 [.int .i64 key, .int .i64 n] [] ⟨.tup [.nilsl, .int .i64 3], [], []⟩ := by
  by_cases hk : key < 1 ∨ 2147483646 < key
  · have f1 : ∀ h, M.ext 95 [.int .i64 key, .int .i64 1, .int .i64 2147483646] h = some ⟨.bool true, h, []⟩ := fun h => by rw [h95]; simp [hk]
    refine run_of_W (by rw [hft]; exact ft19) (by simp) ?_
    unfold b19
    simp only [List.map_cons, List.map_nil, List.getElem?_cons_zero, List.getElem?_cons_succ, List.getElem?_nil, Option.getD_some, Option.getD_none]
    repeat' first
      | apply W.seq
      | apply SQn
      | apply W.region
      | apply WO.nil
      | apply W.block
      | apply W.ret
      | apply W.exit
      | apply W.skip
      | apply SQr
      | apply SQe
      | apply BQn
      | apply BQr
      | apply BQe
      | (apply BQo; exact rfl)
      | apply LQe
      | apply LQr
      | (apply W.condT; exact rfl)
      | (apply W.condF; exact rfl)
      | (apply W.cond; exact rfl; all_goals intro _)
      | (apply WO.gT; exact rfl)
      | (apply WO.gF; exact rfl)
      | (apply WO.sT; exact rfl)
      | (apply WO.sF; exact rfl)
      | (apply WO.sU; exact rfl)
      | (apply WO.pkT; exact rfl; exact rfl)
      | (apply WO.pkF; exact rfl; exact rfl)
      | (apply WO.sub; exact rfl; exact rfl; omega)
      | (apply WO.cll; exact rfl; exact rfl; first | exact f1 _)
      | (apply WO.mki; exact rfl; exact rfl; omega)
      | (apply WO.mkb; exact rfl; exact rfl; omega)
      | (apply WO.clb; exact rfl; exact rfl; exact rfl; all_goals first | (intro h; exact absurd h (by decide)) | intro _)
      | (apply WO.cll; exact rfl; exact rfl; exact rfl)
      | (apply WO.hlv; exact rfl; exact rfl; exact rfl)
      | (apply WO.hpv; exact rfl; exact rfl; exact rfl)
      | (apply WO.hnv; exact rfl; exact rfl; exact rfl)
      | (apply WO.pl; exact rfl; exact rfl)
      | (apply WO.pp; exact rfl; exact rfl)
    exact ⟨.inr rfl, rfl, _, rfl, rfl, rfl⟩
  · have f1 : ∀ h, M.ext 95 [.int .i64 key, .int .i64 1, .int .i64 2147483646] h = some ⟨.bool false, h, []⟩ := fun h => by rw [h95]; simp; omega
    have f2 : ∀ h, M.ext 95 [.int .i64 n, .int .i64 0, .int .i64 256] h = some ⟨.bool true, h, []⟩ := fun h => by rw [h95]; simp; omega
    refine run_of_W (by rw [hft]; exact ft19) (by simp) ?_
    unfold b19
    simp only [List.map_cons, List.map_nil, List.getElem?_cons_zero, List.getElem?_cons_succ, List.getElem?_nil, Option.getD_some, Option.getD_none]
    repeat' first
      | apply W.seq
      | apply SQn
      | apply W.region
      | apply WO.nil
      | apply W.block
      | apply W.ret
      | apply W.exit
      | apply W.skip
      | apply SQr
      | apply SQe
      | apply BQn
      | apply BQr
      | apply BQe
      | (apply BQo; exact rfl)
      | apply LQe
      | apply LQr
      | (apply W.condT; exact rfl)
      | (apply W.condF; exact rfl)
      | (apply W.cond; exact rfl; all_goals intro _)
      | (apply WO.gT; exact rfl)
      | (apply WO.gF; exact rfl)
      | (apply WO.sT; exact rfl)
      | (apply WO.sF; exact rfl)
      | (apply WO.sU; exact rfl)
      | (apply WO.pkT; exact rfl; exact rfl)
      | (apply WO.pkF; exact rfl; exact rfl)
      | (apply WO.sub; exact rfl; exact rfl; omega)
      | (apply WO.cll; exact rfl; exact rfl; first | exact f1 _ | exact f2 _)
      | (apply WO.mki; exact rfl; exact rfl; omega)
      | (apply WO.mkb; exact rfl; exact rfl; omega)
      | (apply WO.clb; exact rfl; exact rfl; exact rfl; all_goals first | (intro h; exact absurd h (by decide)) | intro _)
      | (apply WO.cll; exact rfl; exact rfl; exact rfl)
      | (apply WO.hlv; exact rfl; exact rfl; exact rfl)
      | (apply WO.hpv; exact rfl; exact rfl; exact rfl)
      | (apply WO.hnv; exact rfl; exact rfl; exact rfl)
      | (apply WO.pl; exact rfl; exact rfl)
      | (apply WO.pp; exact rfl; exact rfl)
    exact ⟨.inr rfl, rfl, _, rfl, rfl, rfl⟩

/-! stadionref01.SameInts, stadionlaw01.list. -/
theorem loop93 (l m : List Int) (hlm : l.length = m.length) (hl : l.length < 4611686018427387904) (c1 c2 : Option Nat) {Q : Ex → StW → Prop} (h1 : l = m → ∀ lo wr, Q (.exit 0) ⟨⟨[.vs (ints l) l.length c1, .vs (ints m) m.length c2, .bool false, .int .i64 l.length], lo, [], []⟩, wr⟩)
    (h2 : l ≠ m → ∀ i lo wr, Q .ret ⟨⟨[.vs (ints l) l.length c1, .vs (ints m) m.length c2, .bool false, i], lo, [], []⟩, wr⟩) : ∀ (r i : Nat), i + r = l.length → l.take i = m.take i → ∀ (lo : List (Nat × AV)) (wr : List Nat),
    W M (.loop b93_0) ⟨⟨[.vs (ints l) l.length c1, .vs (ints m) m.length c2, .bool false, .int .i64 i], lo, [], []⟩, wr⟩ Q
  | 0, i, hi, he, lo, wr => by
    obtain rfl : i = l.length := by omega
    rw [List.take_length, hlm, List.take_length] at he
    refine W.loop ?_
    unfold b93_0
    repeat' first
      | apply W.seq
      | apply SQn
      | apply W.region
      | apply WO.nil
      | apply W.block
      | apply W.ret
      | apply W.exit
      | apply W.skip
      | apply SQr
      | apply SQe
      | apply BQn
      | apply BQr
      | apply BQe
      | (apply BQo; exact rfl)
      | apply LQe
      | apply LQr
      | (apply W.drawro; exact rfl)
      | apply W.draw
      | apply WD.nil
      | (apply WD.gT; exact rfl)
      | (apply WD.gF; exact rfl)
      | (apply WD.sT; exact rfl)
      | (apply WD.sF; exact rfl)
      | (apply WD.sU; exact rfl)
      | (apply WD.pure1; exact rfl)
      | (apply WD.load1; exact rfl; exact rfl; exact rfl)
      | (apply W.condT; exact rfl)
      | (apply W.condF; exact rfl)
      | (apply W.cond; exact rfl; all_goals intro _)
      | (apply WO.lss; exact rfl; exact rfl; all_goals first | (intro _; exfalso; omega) | intro _)
      | (apply WO.neq; exact rfl; exact rfl; all_goals first | (intro _; exfalso; omega) | intro _)
      | (apply WO.add; exact rfl; exact rfl; omega)
      | (apply WO.iav; exact rfl; exact rfl; omega)
      | (apply WO.ias; exact rfl; exact rfl; omega)
      | (apply WO.lda; exact rfl; exact fun _ => rfl; (first | omega | (simp only [List.length_set]; omega) | (simp; omega)); decide; exact rfl; case ia => infer_instance)
      | (apply WO.lsa; exact rfl; (first | exact rfl | assumption | exact at_new | (apply at_old; assumption) | (apply at_put; first | assumption | (simp only [put_length]; assumption))); exact fun _ => rfl; (first | omega | (simp only [List.length_set]; omega) | (simp; omega)); decide; exact rfl; case ia => infer_instance)
      | (apply WO.sneq; exact rfl; exact rfl; all_goals first | (intro h; exact absurd h (by decide)) | (intro h; exact absurd rfl h) | (intro h; contradiction) | intro _)
      | (apply WO.hlv; exact rfl; exact rfl; exact rfl)
      | (apply WO.hpv; exact rfl; exact rfl; exact rfl)
      | (apply WO.hnv; exact rfl; exact rfl; exact rfl)
      | (apply WO.pl; exact rfl; exact rfl)
      | (apply WO.pp; exact rfl; exact rfl)
    · exact h1 he _ _
  | r + 1, i, hi, he, lo, wr => by
    have ei : ((i : Int)).toNat = i := by omega
    have b1 : ((i : Int)).toNat < l.length := by omega
    have b2 : ((i : Int)).toNat < m.length := by omega
    refine W.loop ?_
    unfold b93_0
    repeat' first
      | apply W.seq
      | apply SQn
      | apply W.region
      | apply WO.nil
      | apply W.block
      | apply W.ret
      | apply W.exit
      | apply W.skip
      | apply SQr
      | apply SQe
      | apply BQn
      | apply BQr
      | apply BQe
      | (apply BQo; exact rfl)
      | apply LQe
      | apply LQr
      | (apply W.drawro; exact rfl)
      | apply W.draw
      | apply WD.nil
      | (apply WD.gT; exact rfl)
      | (apply WD.gF; exact rfl)
      | (apply WD.sT; exact rfl)
      | (apply WD.sF; exact rfl)
      | (apply WD.sU; exact rfl)
      | (apply WD.pure1; exact rfl)
      | (apply WD.load1; exact rfl; exact rfl; exact rfl)
      | (apply W.condT; exact rfl)
      | (apply W.condF; exact rfl)
      | (apply W.cond; exact rfl; all_goals intro _)
      | (apply WO.lss; exact rfl; exact rfl; all_goals first | (intro _; exfalso; omega) | intro _)
      | (apply WO.neq; exact rfl; exact rfl; all_goals first | (intro _; exfalso; omega) | intro _)
      | (apply WO.add; exact rfl; exact rfl; omega)
      | (apply WO.iav; exact rfl; exact rfl; omega)
      | (apply WO.ias; exact rfl; exact rfl; omega)
      | (apply WO.lda; exact rfl; exact fun _ => rfl; (first | omega | (simp only [List.length_set]; omega) | (simp; omega)); decide; exact rfl; case ia => infer_instance)
      | (apply WO.lsa; exact rfl; (first | exact rfl | assumption | exact at_new | (apply at_old; assumption) | (apply at_put; first | assumption | (simp only [put_length]; assumption))); exact fun _ => rfl; (first | omega | (simp only [List.length_set]; omega) | (simp; omega)); decide; exact rfl; case ia => infer_instance)
      | (apply WO.sneq; exact rfl; exact rfl; all_goals first | (intro h; exact absurd h (by decide)) | (intro h; exact absurd rfl h) | (intro h; contradiction) | intro _)
      | (apply WO.hlv; exact rfl; exact rfl; exact rfl)
      | (apply WO.hpv; exact rfl; exact rfl; exact rfl)
      | (apply WO.hnv; exact rfl; exact rfl; exact rfl)
      | (apply WO.pl; exact rfl; exact rfl)
      | (apply WO.pp; exact rfl; exact rfl)
    · rename_i hne
      exact h2 (fun e => hne (by rw [e])) _ _ _
    · rename_i heq
      refine LQn (loop93 l m hlm hl c1 c2 h1 h2 r (i + 1) (by omega) ?_ _ _)
      rw [take_snoc (by omega), take_snoc (by omega), he]
      rw [ei] at heq
      rw [heq]
theorem w93 (hft : M.FT = FT) (l m : List Int) (c1 c2 : Option Nat) (hl : l.length < 4611686018427387904) : Run M 93 [.vs (ints l) l.length c1, .vs (ints m) m.length c2] [] ⟨.bool (decide (l = m)), [], []⟩ := by
  refine run_of_W (by rw [hft]; exact ft93) (by simp) ?_
  unfold b93
  by_cases hlm : l.length = m.length
  · repeat' first
      | apply W.seq
      | apply SQn
      | apply W.region
      | apply WO.nil
      | apply W.block
      | apply W.ret
      | apply W.exit
      | apply W.skip
      | apply SQr
      | apply SQe
      | apply BQn
      | apply BQr
      | apply BQe
      | (apply BQo; exact rfl)
      | apply LQe
      | apply LQr
      | (apply W.condT; exact rfl)
      | (apply W.condF; exact rfl)
      | (apply W.cond; exact rfl; all_goals intro _)
      | (apply WO.neq; exact rfl; exact rfl; all_goals first | (intro _; exfalso; omega) | intro _)
      | (apply WO.sneq; exact rfl; exact rfl; all_goals first | (intro h; exact absurd h (by decide)) | (intro h; exact absurd rfl h) | (intro h; contradiction) | intro _)
      | (apply WO.pl; exact rfl; exact rfl)
      | (apply WO.pp; exact rfl; exact rfl)
    refine loop93 l m hlm hl c1 c2 (fun e lo wr => ?_) (fun e i lo wr => ?_) l.length 0 (by omega) rfl _ _
    · repeat' first
        | apply W.seq
        | apply SQn
        | apply W.region
        | apply WO.nil
        | apply W.block
        | apply W.ret
        | apply W.exit
        | apply W.skip
        | apply SQr
        | apply SQe
        | apply BQn
        | apply BQr
        | apply BQe
        | (apply BQo; exact rfl)
        | apply LQe
        | apply LQr
        | (apply W.condT; exact rfl)
        | (apply W.condF; exact rfl)
        | (apply W.cond; exact rfl; all_goals intro _)
        | (apply WO.neq; exact rfl; exact rfl; all_goals first | (intro _; exfalso; omega) | intro _)
        | (apply WO.sneq; exact rfl; exact rfl; all_goals first | (intro h; exact absurd h (by decide)) | (intro h; exact absurd rfl h) | (intro h; contradiction) | intro _)
        | (apply WO.pl; exact rfl; exact rfl)
        | (apply WO.pp; exact rfl; exact rfl)
      exact ⟨.inr rfl, rfl, _, rfl, by rw [decide_eq_true e]; rfl, rfl⟩
    · repeat' first
        | apply W.seq
        | apply SQn
        | apply W.region
        | apply WO.nil
        | apply W.block
        | apply W.ret
        | apply W.exit
        | apply W.skip
        | apply SQr
        | apply SQe
        | apply BQn
        | apply BQr
        | apply BQe
        | (apply BQo; exact rfl)
        | apply LQe
        | apply LQr
        | (apply W.condT; exact rfl)
        | (apply W.condF; exact rfl)
        | (apply W.cond; exact rfl; all_goals intro _)
        | (apply WO.neq; exact rfl; exact rfl; all_goals first | (intro _; exfalso; omega) | intro _)
        | (apply WO.sneq; exact rfl; exact rfl; all_goals first | (intro h; exact absurd h (by decide)) | (intro h; exact absurd rfl h) | (intro h; contradiction) | intro _)
        | (apply WO.pl; exact rfl; exact rfl)
        | (apply WO.pp; exact rfl; exact rfl)
      exact ⟨.inr rfl, rfl, _, rfl, by rw [decide_eq_false e]; rfl, rfl⟩
  · repeat' first
      | apply W.seq
      | apply SQn
      | apply W.region
      | apply WO.nil
      | apply W.block
      | apply W.ret
      | apply W.exit
      | apply W.skip
      | apply SQr
      | apply SQe
      | apply BQn
      | apply BQr
      | apply BQe
      | (apply BQo; exact rfl)
      | apply LQe
      | apply LQr
      | (apply W.condT; exact rfl)
      | (apply W.condF; exact rfl)
      | (apply W.cond; exact rfl; all_goals intro _)
      | (apply WO.neq; exact rfl; exact rfl; all_goals first | (intro _; exfalso; omega) | intro _)
      | (apply WO.sneq; exact rfl; exact rfl; all_goals first | (intro h; exact absurd h (by decide)) | (intro h; exact absurd rfl h) | (intro h; contradiction) | intro _)
      | (apply WO.pl; exact rfl; exact rfl)
      | (apply WO.pp; exact rfl; exact rfl)
    exact ⟨.inr rfl, rfl, _, rfl, by rw [decide_eq_false (fun e => hlm (by rw [e]))]; rfl, rfl⟩

theorem w21 (hft : M.FT = FT) (l m : List Int) (e bad : Int) (c1 c2 : Option Nat) (h93 : ∀ h, M.ext 93 [.vs (ints l) l.length c1, .vs (ints m) m.length c2] h = some ⟨.bool (decide (l = m)), h, []⟩) :
    Run M 21 [.vs (ints l) l.length c1, .int .i64 e, .int .i64 bad, .vs (ints m) m.length c2] [] ⟨.bool (if bad ≠ 0 then decide (l.length = 0 ∧ e = bad) else decide (e = 0 ∧ l = m)), [], []⟩ := by
  by_cases hb : bad = 0
  · subst hb
    refine run_of_W (by rw [hft]; exact ft21) (by simp) ?_
    unfold b21
    by_cases hlm : l = m
    · rw [decide_eq_true hlm] at h93
      repeat' first
        | apply W.seq
        | apply SQn
        | apply W.region
        | apply WO.nil
        | apply W.block
        | apply W.ret
        | apply W.exit
        | apply W.skip
        | apply SQr
        | apply SQe
        | apply BQn
        | apply BQr
        | apply BQe
        | (apply BQo; exact rfl)
        | apply LQe
        | apply LQr
        | (apply W.condT; exact rfl)
        | (apply W.condF; exact rfl)
        | (apply W.cond; exact rfl; all_goals intro _)
        | (apply WO.gT; exact rfl)
        | (apply WO.gF; exact rfl)
        | (apply WO.sT; exact rfl)
        | (apply WO.sF; exact rfl)
        | (apply WO.sU; exact rfl)
        | (apply WO.eql; exact rfl; exact rfl; all_goals first | (intro _; exfalso; omega) | intro _)
        | (apply WO.neq; exact rfl; exact rfl; all_goals first | (intro _; exfalso; omega) | intro _)
        | (apply WO.pkT; exact rfl; exact rfl)
        | (apply WO.pkF; exact rfl; exact rfl)
        | (apply WO.cll; exact rfl; exact rfl; first | exact h93 _)
        | (apply WO.seql; exact rfl; exact rfl; all_goals first | (intro h; exact absurd h (by decide)) | (intro h; exact absurd rfl h) | (intro h; contradiction) | intro _)
        | (apply WO.sneq; exact rfl; exact rfl; all_goals first | (intro h; exact absurd h (by decide)) | (intro h; exact absurd rfl h) | (intro h; contradiction) | intro _)
        | (apply WO.clb; exact rfl; exact rfl; exact rfl; all_goals first | (intro h; exact absurd h (by decide)) | intro _)
        | (apply WO.cll; exact rfl; exact rfl; exact rfl)
        | (apply WO.pl; exact rfl; exact rfl)
        | (apply WO.pp; exact rfl; exact rfl)
      all_goals exact ⟨.inr rfl, rfl, _, rfl, by simp [tupA, *], rfl⟩
    · rw [decide_eq_false hlm] at h93
      repeat' first
        | apply W.seq
        | apply SQn
        | apply W.region
        | apply WO.nil
        | apply W.block
        | apply W.ret
        | apply W.exit
        | apply W.skip
        | apply SQr
        | apply SQe
        | apply BQn
        | apply BQr
        | apply BQe
        | (apply BQo; exact rfl)
        | apply LQe
        | apply LQr
        | (apply W.condT; exact rfl)
        | (apply W.condF; exact rfl)
        | (apply W.cond; exact rfl; all_goals intro _)
        | (apply WO.gT; exact rfl)
        | (apply WO.gF; exact rfl)
        | (apply WO.sT; exact rfl)
        | (apply WO.sF; exact rfl)
        | (apply WO.sU; exact rfl)
        | (apply WO.eql; exact rfl; exact rfl; all_goals first | (intro _; exfalso; omega) | intro _)
        | (apply WO.neq; exact rfl; exact rfl; all_goals first | (intro _; exfalso; omega) | intro _)
        | (apply WO.pkT; exact rfl; exact rfl)
        | (apply WO.pkF; exact rfl; exact rfl)
        | (apply WO.cll; exact rfl; exact rfl; first | exact h93 _)
        | (apply WO.seql; exact rfl; exact rfl; all_goals first | (intro h; exact absurd h (by decide)) | (intro h; exact absurd rfl h) | (intro h; contradiction) | intro _)
        | (apply WO.sneq; exact rfl; exact rfl; all_goals first | (intro h; exact absurd h (by decide)) | (intro h; exact absurd rfl h) | (intro h; contradiction) | intro _)
        | (apply WO.clb; exact rfl; exact rfl; exact rfl; all_goals first | (intro h; exact absurd h (by decide)) | intro _)
        | (apply WO.cll; exact rfl; exact rfl; exact rfl)
        | (apply WO.pl; exact rfl; exact rfl)
        | (apply WO.pp; exact rfl; exact rfl)
      all_goals exact ⟨.inr rfl, rfl, _, rfl, by simp [tupA, *], rfl⟩
  · have hl0 : ((l.length : Int) = 0) = (l.length = 0) := by apply propext; omega
    rw [if_pos hb]
    refine run_of_W (by rw [hft]; exact ft21) (by simp) ?_
    unfold b21
    repeat' first
      | apply W.seq
      | apply SQn
      | apply W.region
      | apply WO.nil
      | apply W.block
      | apply W.ret
      | apply W.exit
      | apply W.skip
      | apply SQr
      | apply SQe
      | apply BQn
      | apply BQr
      | apply BQe
      | (apply BQo; exact rfl)
      | apply LQe
      | apply LQr
      | (apply W.condT; exact rfl)
      | (apply W.condF; exact rfl)
      | (apply W.cond; exact rfl; all_goals intro _)
      | (apply WO.gT; exact rfl)
      | (apply WO.gF; exact rfl)
      | (apply WO.sT; exact rfl)
      | (apply WO.sF; exact rfl)
      | (apply WO.sU; exact rfl)
      | (apply WO.eql; exact rfl; exact rfl; all_goals first | (intro _; exfalso; omega) | intro _)
      | (apply WO.neq; exact rfl; exact rfl; all_goals first | (intro _; exfalso; omega) | intro _)
      | (apply WO.pkT; exact rfl; exact rfl)
      | (apply WO.pkF; exact rfl; exact rfl)
      | (apply WO.seql; exact rfl; exact rfl; all_goals first | (intro h; exact absurd h (by decide)) | (intro h; exact absurd rfl h) | (intro h; contradiction) | intro _)
      | (apply WO.sneq; exact rfl; exact rfl; all_goals first | (intro h; exact absurd h (by decide)) | (intro h; exact absurd rfl h) | (intro h; contradiction) | intro _)
      | (apply WO.clb; exact rfl; exact rfl; exact rfl; all_goals first | (intro h; exact absurd h (by decide)) | intro _)
      | (apply WO.cll; exact rfl; exact rfl; exact rfl)
      | (apply WO.pl; exact rfl; exact rfl)
      | (apply WO.pp; exact rfl; exact rfl)
    all_goals refine ⟨.inr rfl, rfl, _, rfl, ?_, rfl⟩
    all_goals simp only [tupA]; congr 1; symm
    all_goals first | (rw [decide_eq_true_eq]; omega) | (rw [decide_eq_false_iff_not]; omega)

/-! checkWeights. -/
theorem loop220 (l : List Int) (p : Int → Bool) (f : AV) (cap : Option Nat) (hl : l.length < 4611686018427387904) (hf : ∀ x, CT M f [.int .i64 x] [] ⟨.bool (p x), [], []⟩) {Q : Ex → StW → Prop}
    (h1 : l.any p = true → ∀ (i : Nat) a3 lo wr, Q .ret ⟨⟨[.vs (ints l) l.length cap, f, .int .i64 i, a3, .int .i64 l.length, .int .i64 i], lo, [], []⟩, wr⟩) (h2 : l.any p = false → ∀ a3 lo wr, Q (.exit 0) ⟨⟨[.vs (ints l) l.length cap, f, .int .i64 0, a3, .int .i64 l.length, .int .i64 l.length], lo, [], []⟩, wr⟩) : ∀ (r i : Nat), i + r = l.length → (l.take i).any p = false → ∀ (a3 : AV) (lo : List (Nat × AV)) (wr : List Nat),
    W M (.loop b220_0) ⟨⟨[.vs (ints l) l.length cap, f, .int .i64 0, a3, .int .i64 l.length, .int .i64 i], lo, [], []⟩, wr⟩ Q
  | 0, i, hi, he, a3, lo, wr => by
    obtain rfl : i = l.length := by omega
    rw [List.take_length] at he
    refine W.loop ?_
    unfold b220_0
    repeat' first
      | apply W.seq
      | apply SQn
      | apply W.region
      | apply WO.nil
      | apply W.block
      | apply W.ret
      | apply W.exit
      | apply W.skip
      | apply SQr
      | apply SQe
      | apply BQn
      | apply BQr
      | apply BQe
      | (apply BQo; exact rfl)
      | apply LQe
      | apply LQr
      | (apply W.condT; exact rfl)
      | (apply W.condF; exact rfl)
      | (apply W.cond; exact rfl; all_goals intro _)
      | (apply WO.lss; exact rfl; exact rfl; all_goals first | (intro _; exfalso; omega) | intro _)
      | (apply WO.add; exact rfl; exact rfl; omega)
      | (apply WO.iav; exact rfl; exact rfl; omega)
      | (apply WO.ias; exact rfl; exact rfl; omega)
      | (apply WO.lda; exact rfl; exact fun _ => rfl; (first | omega | (simp only [List.length_set]; omega) | (simp; omega)); decide; exact rfl; case ia => infer_instance)
      | (apply WO.lsa; exact rfl; (first | exact rfl | assumption | exact at_new | (apply at_old; assumption) | (apply at_put; first | assumption | (simp only [put_length]; assumption))); exact fun _ => rfl; (first | omega | (simp only [List.length_set]; omega) | (simp; omega)); decide; exact rfl; case ia => infer_instance)
      | (apply WO.clb; exact rfl; exact rfl; exact rfl; all_goals first | (intro h; exact absurd h (by decide)) | intro _)
      | (apply WO.cll; exact rfl; exact rfl; exact rfl)
      | (apply WO.hlv; exact rfl; exact rfl; exact rfl)
      | (apply WO.hpv; exact rfl; exact rfl; exact rfl)
      | (apply WO.hnv; exact rfl; exact rfl; exact rfl)
      | (apply WO.pl; exact rfl; exact rfl)
      | (apply WO.pp; exact rfl; exact rfl)
    · exact h2 he _ _ _
  | r + 1, i, hi, he, a3, lo, wr => by
    have ei : ((i : Int)).toNat = i := by omega
    have b1 : ((i : Int)).toNat < l.length := by omega
    have hc := hf l[((i : Int)).toNat]!
    refine W.loop ?_
    cases hp : p l[((i : Int)).toNat]!
    · rw [hp] at hc
      unfold b220_0
      repeat' first
        | apply W.seq
        | apply SQn
        | apply W.region
        | apply WO.nil
        | apply W.block
        | apply W.ret
        | apply W.exit
        | apply W.skip
        | apply SQr
        | apply SQe
        | apply BQn
        | apply BQr
        | apply BQe
        | (apply BQo; exact rfl)
        | apply LQe
        | apply LQr
        | (apply W.condT; exact rfl)
        | (apply W.condF; exact rfl)
        | (apply W.cond; exact rfl; all_goals intro _)
        | (apply WO.lss; exact rfl; exact rfl; all_goals first | (intro _; exfalso; omega) | intro _)
        | (apply WO.add; exact rfl; exact rfl; omega)
        | (apply WO.ct; exact rfl; exact rfl; first | exact hc)
        | (apply WO.ctn; exact rfl; exact rfl; first | exact hc)
        | (apply WD.ct; exact rfl; exact rfl; exact rfl; first | exact hc)
        | (apply WO.iav; exact rfl; exact rfl; omega)
        | (apply WO.ias; exact rfl; exact rfl; omega)
        | (apply WO.lda; exact rfl; exact fun _ => rfl; (first | omega | (simp only [List.length_set]; omega) | (simp; omega)); decide; exact rfl; case ia => infer_instance)
        | (apply WO.lsa; exact rfl; (first | exact rfl | assumption | exact at_new | (apply at_old; assumption) | (apply at_put; first | assumption | (simp only [put_length]; assumption))); exact fun _ => rfl; (first | omega | (simp only [List.length_set]; omega) | (simp; omega)); decide; exact rfl; case ia => infer_instance)
        | (apply WO.clb; exact rfl; exact rfl; exact rfl; all_goals first | (intro h; exact absurd h (by decide)) | intro _)
        | (apply WO.cll; exact rfl; exact rfl; exact rfl)
        | (apply WO.hlv; exact rfl; exact rfl; exact rfl)
        | (apply WO.hpv; exact rfl; exact rfl; exact rfl)
        | (apply WO.hnv; exact rfl; exact rfl; exact rfl)
        | (apply WO.pl; exact rfl; exact rfl)
        | (apply WO.pp; exact rfl; exact rfl)
      refine LQn (loop220 l p f cap hl hf h1 h2 r (i + 1) (by omega) ?_ _ _ _)
      rw [take_snoc (by omega), List.any_append, he]
      rw [ei] at hp
      simp only [List.any_cons, List.any_nil, hp]
      rfl
    · rw [hp] at hc
      have ha : l.any p = true := List.any_eq_true.2 ⟨_, getD_mem b1, hp⟩
      unfold b220_0
      repeat' first
        | apply W.seq
        | apply SQn
        | apply W.region
        | apply WO.nil
        | apply W.block
        | apply W.ret
        | apply W.exit
        | apply W.skip
        | apply SQr
        | apply SQe
        | apply BQn
        | apply BQr
        | apply BQe
        | (apply BQo; exact rfl)
        | apply LQe
        | apply LQr
        | (apply W.condT; exact rfl)
        | (apply W.condF; exact rfl)
        | (apply W.cond; exact rfl; all_goals intro _)
        | (apply WO.lss; exact rfl; exact rfl; all_goals first | (intro _; exfalso; omega) | intro _)
        | (apply WO.add; exact rfl; exact rfl; omega)
        | (apply WO.ct; exact rfl; exact rfl; first | exact hc)
        | (apply WO.ctn; exact rfl; exact rfl; first | exact hc)
        | (apply WD.ct; exact rfl; exact rfl; exact rfl; first | exact hc)
        | (apply WO.iav; exact rfl; exact rfl; omega)
        | (apply WO.ias; exact rfl; exact rfl; omega)
        | (apply WO.lda; exact rfl; exact fun _ => rfl; (first | omega | (simp only [List.length_set]; omega) | (simp; omega)); decide; exact rfl; case ia => infer_instance)
        | (apply WO.lsa; exact rfl; (first | exact rfl | assumption | exact at_new | (apply at_old; assumption) | (apply at_put; first | assumption | (simp only [put_length]; assumption))); exact fun _ => rfl; (first | omega | (simp only [List.length_set]; omega) | (simp; omega)); decide; exact rfl; case ia => infer_instance)
        | (apply WO.clb; exact rfl; exact rfl; exact rfl; all_goals first | (intro h; exact absurd h (by decide)) | intro _)
        | (apply WO.cll; exact rfl; exact rfl; exact rfl)
        | (apply WO.hlv; exact rfl; exact rfl; exact rfl)
        | (apply WO.hpv; exact rfl; exact rfl; exact rfl)
        | (apply WO.hnv; exact rfl; exact rfl; exact rfl)
        | (apply WO.pl; exact rfl; exact rfl)
        | (apply WO.pp; exact rfl; exact rfl)
      exact h1 ha i _ _ _
theorem r171 (hft : M.FT = FT) (n171 : ∀ ars h, M.ext 171 ars h = none) (n220 : ∀ ars h, M.ext 220 ars h = none) (l : List Int) (p : Int → Bool) (f : AV) (cap : Option Nat) (hl : l.length < 4611686018427387904) (hf : ∀ x, CT M f [.int .i64 x] [] ⟨.bool (p x), [], []⟩) :
    CT M (fn 171) [.vs (ints l) l.length cap, f] [] ⟨.bool (l.any p), [], []⟩ := by
  obtain ⟨k, hk, hr⟩ : ∃ k : Int, (0 ≤ k ↔ l.any p = true) ∧ Run M 220 [.vs (ints l) l.length cap, f] [] ⟨.int .i64 k, [], []⟩ := by
    cases ha : l.any p
    · refine ⟨-1, by simp, run_of_W (by rw [hft]; exact ft220) (by simp) ?_⟩
      unfold b220
      simp only [List.map_cons, List.map_nil, List.getElem?_cons_zero, List.getElem?_cons_succ, List.getElem?_nil, Option.getD_some, Option.getD_none]
      repeat' first
        | apply W.seq
        | apply SQn
        | apply W.region
        | apply WO.nil
        | apply W.block
        | apply W.ret
        | apply W.exit
        | apply W.skip
        | apply SQr
        | apply SQe
        | apply BQn
        | apply BQr
        | apply BQe
        | (apply BQo; exact rfl)
        | apply LQe
        | apply LQr
        | (apply W.condT; exact rfl)
        | (apply W.condF; exact rfl)
        | (apply W.cond; exact rfl; all_goals intro _)
        | (apply WO.geq; exact rfl; exact rfl; all_goals first | (intro _; exfalso; omega) | intro _)
        | (apply WO.clb; exact rfl; exact rfl; exact rfl; all_goals first | (intro h; exact absurd h (by decide)) | intro _)
        | (apply WO.cll; exact rfl; exact rfl; exact rfl)
        | (apply WO.pl; exact rfl; exact rfl)
        | (apply WO.pp; exact rfl; exact rfl)
      refine loop220 l p f cap hl hf (fun h => by rw [ha] at h; cases h) (fun _ a3 lo wr => ?_) l.length 0 (by omega) (by simp) _ _ _
      repeat' first
        | apply W.seq
        | apply SQn
        | apply W.region
        | apply WO.nil
        | apply W.block
        | apply W.ret
        | apply W.exit
        | apply W.skip
        | apply SQr
        | apply SQe
        | apply BQn
        | apply BQr
        | apply BQe
        | (apply BQo; exact rfl)
        | apply LQe
        | apply LQr
        | (apply W.condT; exact rfl)
        | (apply W.condF; exact rfl)
        | (apply W.cond; exact rfl; all_goals intro _)
        | (apply WO.geq; exact rfl; exact rfl; all_goals first | (intro _; exfalso; omega) | intro _)
        | (apply WO.clb; exact rfl; exact rfl; exact rfl; all_goals first | (intro h; exact absurd h (by decide)) | intro _)
        | (apply WO.cll; exact rfl; exact rfl; exact rfl)
        | (apply WO.pl; exact rfl; exact rfl)
        | (apply WO.pp; exact rfl; exact rfl)
      exact ⟨.inr rfl, rfl, _, rfl, rfl, rfl⟩
    · obtain ⟨⟨n, e, s, g1, k, g2⟩⟩ : W M b220 ⟨⟨[0, 1, 4, 5, 7, 8].map (fun t => ([AV.vs (ints l) l.length cap, f][t]?).getD undefA), [], [], []⟩, []⟩ fun e s => ∃ k : Nat, (e = .normal ∨ e = .ret) ∧ s.s.dfs = [] ∧ s.s.pe[2]? = some (.int .i64 k) := by
        unfold b220
        simp only [List.map_cons, List.map_nil, List.getElem?_cons_zero, List.getElem?_cons_succ, List.getElem?_nil, Option.getD_some, Option.getD_none]
        repeat' first
          | apply W.seq
          | apply SQn
          | apply W.region
          | apply WO.nil
          | apply W.block
          | apply W.ret
          | apply W.exit
          | apply W.skip
          | apply SQr
          | apply SQe
          | apply BQn
          | apply BQr
          | apply BQe
          | (apply BQo; exact rfl)
          | apply LQe
          | apply LQr
          | (apply W.condT; exact rfl)
          | (apply W.condF; exact rfl)
          | (apply W.cond; exact rfl; all_goals intro _)
          | (apply WO.geq; exact rfl; exact rfl; all_goals first | (intro _; exfalso; omega) | intro _)
          | (apply WO.clb; exact rfl; exact rfl; exact rfl; all_goals first | (intro h; exact absurd h (by decide)) | intro _)
          | (apply WO.cll; exact rfl; exact rfl; exact rfl)
          | (apply WO.pl; exact rfl; exact rfl)
          | (apply WO.pp; exact rfl; exact rfl)
        refine loop220 l p f cap hl hf (fun _ i a3 lo wr => ?_) (fun h => by rw [ha] at h; cases h) l.length 0 (by omega) (by simp) _ _ _
        repeat' first
          | apply W.seq
          | apply SQn
          | apply W.region
          | apply WO.nil
          | apply W.block
          | apply W.ret
          | apply W.exit
          | apply W.skip
          | apply SQr
          | apply SQe
          | apply BQn
          | apply BQr
          | apply BQe
          | (apply BQo; exact rfl)
          | apply LQe
          | apply LQr
          | (apply W.condT; exact rfl)
          | (apply W.condF; exact rfl)
          | (apply W.cond; exact rfl; all_goals intro _)
          | (apply WO.geq; exact rfl; exact rfl; all_goals first | (intro _; exfalso; omega) | intro _)
          | (apply WO.clb; exact rfl; exact rfl; exact rfl; all_goals first | (intro h; exact absurd h (by decide)) | intro _)
          | (apply WO.cll; exact rfl; exact rfl; exact rfl)
          | (apply WO.pl; exact rfl; exact rfl)
          | (apply WO.pp; exact rfl; exact rfl)
        exact ⟨i, .inr rfl, rfl, rfl⟩
      exact ⟨k, by simp, run_of_W (by rw [hft]; exact ft220) (by simp) ⟨⟨n, e, s, g1, g2.1, g2.2.1, [.int .i64 k], by simp only [resultsA, St.opd, g2.2.2], rfl, rfl⟩⟩⟩
  refine CT.run (n171 _ _) ?_
  have hc : CT M (fn 220) [.vs (ints l) l.length cap, f] [] ⟨.int .i64 k, [], []⟩ := ct_of_run n220 hr
  refine run_of_W (by rw [hft]; exact ft171) (by simp) ?_
  unfold b171
  simp only [List.nil_append, List.append_nil]
  simp only [List.map_cons, List.map_nil, List.getElem?_cons_zero, List.getElem?_cons_succ, List.getElem?_nil, Option.getD_some, Option.getD_none]
  cases ha : l.any p
  · have hk' : k < 0 := by rw [ha] at hk; simp at hk; omega
    repeat' first
      | apply W.seq
      | apply SQn
      | apply W.region
      | apply WO.nil
      | apply W.block
      | apply W.ret
      | apply W.exit
      | apply W.skip
      | apply SQr
      | apply SQe
      | apply BQn
      | apply BQr
      | apply BQe
      | (apply BQo; exact rfl)
      | apply LQe
      | apply LQr
      | (apply W.condT; exact rfl)
      | (apply W.condF; exact rfl)
      | (apply W.cond; exact rfl; all_goals intro _)
      | (apply WO.geq; exact rfl; exact rfl; all_goals first | (intro _; exfalso; omega) | intro _)
      | (apply WO.ct; exact rfl; exact rfl; first | exact hc)
      | (apply WO.ctn; exact rfl; exact rfl; first | exact hc)
      | (apply WD.ct; exact rfl; exact rfl; exact rfl; first | exact hc)
      | (apply WO.clb; exact rfl; exact rfl; exact rfl; all_goals first | (intro h; exact absurd h (by decide)) | intro _)
      | (apply WO.cll; exact rfl; exact rfl; exact rfl)
      | (apply WO.pl; exact rfl; exact rfl)
      | (apply WO.pp; exact rfl; exact rfl)
    exact ⟨.inr rfl, rfl, _, rfl, rfl, rfl⟩
  · have hk' : 0 ≤ k := hk.2 ha
    repeat' first
      | apply W.seq
      | apply SQn
      | apply W.region
      | apply WO.nil
      | apply W.block
      | apply W.ret
      | apply W.exit
      | apply W.skip
      | apply SQr
      | apply SQe
      | apply BQn
      | apply BQr
      | apply BQe
      | (apply BQo; exact rfl)
      | apply LQe
      | apply LQr
      | (apply W.condT; exact rfl)
      | (apply W.condF; exact rfl)
      | (apply W.cond; exact rfl; all_goals intro _)
      | (apply WO.geq; exact rfl; exact rfl; all_goals first | (intro _; exfalso; omega) | intro _)
      | (apply WO.ct; exact rfl; exact rfl; first | exact hc)
      | (apply WO.ctn; exact rfl; exact rfl; first | exact hc)
      | (apply WD.ct; exact rfl; exact rfl; exact rfl; first | exact hc)
      | (apply WO.clb; exact rfl; exact rfl; exact rfl; all_goals first | (intro h; exact absurd h (by decide)) | intro _)
      | (apply WO.cll; exact rfl; exact rfl; exact rfl)
      | (apply WO.pl; exact rfl; exact rfl)
      | (apply WO.pp; exact rfl; exact rfl)
    exact ⟨.inr rfl, rfl, _, rfl, rfl, rfl⟩

structure Calls98 (M : Mach) : Prop where
  ft : M.FT = FT
  n171 : ∀ ars h, M.ext 171 ars h = none
  n172 : ∀ ars h, M.ext 172 ars h = none
  n173 : ∀ ars h, M.ext 173 ars h = none
  n220 : ∀ ars h, M.ext 220 ars h = none
  c95 : ∀ x lo hi h, M.ext 95 [.int .i64 x, .int .i64 lo, .int .i64 hi] h = some ⟨.bool (decide (x < lo) || decide (hi < x)), h, []⟩
  c97 : ∀ b e h, M.ext 97 [.bool b, .int .i64 e] h = some ⟨.int .i64 (if b then e else 0), h, []⟩
  c96 : ∀ x l h, intsAt h x = some l → l.length < 4611686018427387904 → M.ext 96 [x] h = some ⟨.int .i64 (firstNZ l), h, []⟩

theorem w98 (C : Calls98 M) (w : List Int) (cap : Option Nat) (hl : w.length < 4611686018427387904) : Run M 98 [.vs (ints w) w.length cap] [] ⟨.int .i64 (checkW w), [], []⟩ := by
  have r172 : ∀ x, CT M (fn 172) [.int .i64 x] [] ⟨.bool (decide (x < 0) || decide (999999999 < x)), [], []⟩ := fun x => by
    refine ct_of_run C.n172 (run_of_W (by rw [C.ft]; exact ft172) (by simp) ?_)
    have q := C.c95 x 0 999999999
    generalize (decide (x < 0) || decide (999999999 < x)) = t at *
    unfold b172
    cases t
    · repeat' first
        | apply W.seq
        | apply SQn
        | apply W.region
        | apply WO.nil
        | apply W.block
        | apply W.ret
        | apply W.exit
        | apply W.skip
        | apply SQr
        | apply SQe
        | apply BQn
        | apply BQr
        | apply BQe
        | (apply BQo; exact rfl)
        | apply LQe
        | apply LQr
        | (apply W.condT; exact rfl)
        | (apply W.condF; exact rfl)
        | (apply W.cond; exact rfl; all_goals intro _)
        | (apply WO.gtr; exact rfl; exact rfl; all_goals first | (intro _; exfalso; omega) | intro _)
        | (apply WO.eql; exact rfl; exact rfl; all_goals first | (intro _; exfalso; omega) | intro _)
        | (apply WO.neq; exact rfl; exact rfl; all_goals first | (intro _; exfalso; omega) | intro _)
        | (apply WO.cll; exact rfl; exact rfl; first | exact q _)
        | (apply WO.seql; exact rfl; exact rfl; all_goals first | (intro h; exact absurd h (by decide)) | (intro h; exact absurd rfl h) | (intro h; contradiction) | intro _)
        | (apply WO.sneq; exact rfl; exact rfl; all_goals first | (intro h; exact absurd h (by decide)) | (intro h; exact absurd rfl h) | (intro h; contradiction) | intro _)
        | (apply WO.clb; exact rfl; exact rfl; exact rfl; all_goals first | (intro h; exact absurd h (by decide)) | intro _)
        | (apply WO.cll; exact rfl; exact rfl; exact rfl)
        | (apply WO.hlv; exact rfl; exact rfl; exact rfl)
        | (apply WO.hpv; exact rfl; exact rfl; exact rfl)
        | (apply WO.hnv; exact rfl; exact rfl; exact rfl)
        | (apply WO.pl; exact rfl; exact rfl)
        | (apply WO.pp; exact rfl; exact rfl)
      exact ⟨.inr rfl, rfl, _, rfl, rfl, rfl⟩
    · repeat' first
        | apply W.seq
        | apply SQn
        | apply W.region
        | apply WO.nil
        | apply W.block
        | apply W.ret
        | apply W.exit
        | apply W.skip
        | apply SQr
        | apply SQe
        | apply BQn
        | apply BQr
        | apply BQe
        | (apply BQo; exact rfl)
        | apply LQe
        | apply LQr
        | (apply W.condT; exact rfl)
        | (apply W.condF; exact rfl)
        | (apply W.cond; exact rfl; all_goals intro _)
        | (apply WO.gtr; exact rfl; exact rfl; all_goals first | (intro _; exfalso; omega) | intro _)
        | (apply WO.eql; exact rfl; exact rfl; all_goals first | (intro _; exfalso; omega) | intro _)
        | (apply WO.neq; exact rfl; exact rfl; all_goals first | (intro _; exfalso; omega) | intro _)
        | (apply WO.cll; exact rfl; exact rfl; first | exact q _)
        | (apply WO.seql; exact rfl; exact rfl; all_goals first | (intro h; exact absurd h (by decide)) | (intro h; exact absurd rfl h) | (intro h; contradiction) | intro _)
        | (apply WO.sneq; exact rfl; exact rfl; all_goals first | (intro h; exact absurd h (by decide)) | (intro h; exact absurd rfl h) | (intro h; contradiction) | intro _)
        | (apply WO.clb; exact rfl; exact rfl; exact rfl; all_goals first | (intro h; exact absurd h (by decide)) | intro _)
        | (apply WO.cll; exact rfl; exact rfl; exact rfl)
        | (apply WO.hlv; exact rfl; exact rfl; exact rfl)
        | (apply WO.hpv; exact rfl; exact rfl; exact rfl)
        | (apply WO.hnv; exact rfl; exact rfl; exact rfl)
        | (apply WO.pl; exact rfl; exact rfl)
        | (apply WO.pp; exact rfl; exact rfl)
      exact ⟨.inr rfl, rfl, _, rfl, rfl, rfl⟩
  have r173 : ∀ x, CT M (fn 173) [.int .i64 x] [] ⟨.bool (decide (x ≠ 0)), [], []⟩ := fun x => by
    refine ct_of_run C.n173 (run_of_W (by rw [C.ft]; exact ft173) (by simp) ?_)
    unfold b173
    repeat' first
      | apply W.seq
      | apply SQn
      | apply W.region
      | apply WO.nil
      | apply W.block
      | apply W.ret
      | apply W.exit
      | apply W.skip
      | apply SQr
      | apply SQe
      | apply BQn
      | apply BQr
      | apply BQe
      | (apply BQo; exact rfl)
      | apply LQe
      | apply LQr
      | (apply W.condT; exact rfl)
      | (apply W.condF; exact rfl)
      | (apply W.cond; exact rfl; all_goals intro _)
      | (apply WO.gtr; exact rfl; exact rfl; all_goals first | (intro _; exfalso; omega) | intro _)
      | (apply WO.eql; exact rfl; exact rfl; all_goals first | (intro _; exfalso; omega) | intro _)
      | (apply WO.neq; exact rfl; exact rfl; all_goals first | (intro _; exfalso; omega) | intro _)
      | (apply WO.seql; exact rfl; exact rfl; all_goals first | (intro h; exact absurd h (by decide)) | (intro h; exact absurd rfl h) | (intro h; contradiction) | intro _)
      | (apply WO.sneq; exact rfl; exact rfl; all_goals first | (intro h; exact absurd h (by decide)) | (intro h; exact absurd rfl h) | (intro h; contradiction) | intro _)
      | (apply WO.clb; exact rfl; exact rfl; exact rfl; all_goals first | (intro h; exact absurd h (by decide)) | intro _)
      | (apply WO.cll; exact rfl; exact rfl; exact rfl)
      | (apply WO.hlv; exact rfl; exact rfl; exact rfl)
      | (apply WO.hpv; exact rfl; exact rfl; exact rfl)
      | (apply WO.hnv; exact rfl; exact rfl; exact rfl)
      | (apply WO.pl; exact rfl; exact rfl)
      | (apply WO.pp; exact rfl; exact rfl)
    all_goals exact ⟨.inr rfl, rfl, _, rfl, by simp [tupA, *], rfl⟩
  have f1 := r171 C.ft C.n171 C.n220 w _ (fn 172) cap hl r172
  have f2 := r171 C.ft C.n171 C.n220 w _ (fn 173) cap hl r173
  have e1 : w.any (fun x => decide (x < 0) || decide (999999999 < x)) = !(w.all fun x => decide (0 ≤ x ∧ x ≤ 999999999)) := by
    rw [Bool.eq_iff_iff]
    simp only [List.any_eq_true, Bool.or_eq_true, decide_eq_true_eq, Bool.not_eq_true', List.all_eq_false]
    constructor
    · rintro ⟨x, h1, h2⟩; exact ⟨x, h1, by omega⟩
    · rintro ⟨x, h1, h2⟩; exact ⟨x, h1, by omega⟩
  have e2 : w.any (fun x => decide (x ≠ 0)) = !(w.all fun x => decide (x = 0)) := by
    rw [Bool.eq_iff_iff]
    simp only [List.any_eq_true, decide_eq_true_eq, Bool.not_eq_true', List.all_eq_false]
  rw [e1] at f1
  rw [e2] at f2
  have hE : firstNZ [if w.length = 0 then 12 else 0, if 256 < w.length then 5 else 0, if (!(w.all fun x => decide (0 ≤ x ∧ x ≤ 999999999))) = true then 3 else 0, if (w.all fun x => decide (x = 0)) = true then 6 else 0] = checkW w := by
    unfold checkW
    cases (w.all fun x => decide (0 ≤ x ∧ x ≤ 999999999)) <;> cases (w.all fun x => decide (x = 0)) <;> by_cases h1 : w.length = 0 <;> by_cases h2 : 256 < w.length <;> simp [firstNZ, h1, h2]
  have q1 := C.c97 true 12
  have q2 := C.c97 false 12
  have q3 := C.c97 true 5
  have q4 := C.c97 false 5
  have q5 := C.c97 (!(w.all fun x => decide (0 ≤ x ∧ x ≤ 999999999))) 3
  have q6 := C.c97 true 6
  have q7 := C.c97 false 6
  have q96 : ∀ h x, intsAt h x = some [if w.length = 0 then 12 else 0, if 256 < w.length then 5 else 0, if (!(w.all fun x => decide (0 ≤ x ∧ x ≤ 999999999))) = true then 3 else 0, if (w.all fun x => decide (x = 0)) = true then 6 else 0] → M.ext 96 [x] h = some ⟨.int .i64 (checkW w), h, []⟩ := fun h x hx => by
    rw [C.c96 x _ h hx (by simp), hE]
  generalize checkW w = e at *
  generalize hA : (w.all fun x => decide (0 ≤ x ∧ x ≤ 999999999)) = A at *
  generalize hB : (w.all fun x => decide (x = 0)) = B at *
  by_cases h1 : w.length = 0
  · have h2 : ¬ 256 < w.length := by omega
    have h1' : (w.length : Int) = 0 := by omega
    have h2' : ¬ (256 < (w.length : Int)) := by omega
    rw [if_pos h1, if_neg h2] at q96
    refine run_of_W (by rw [C.ft]; exact ft98) (by simp) ?_
    unfold b98
    cases A <;> cases B
    all_goals
      repeat' first
        | apply W.seq
        | apply SQn
        | apply W.region
        | apply WO.nil
        | apply W.block
        | apply W.ret
        | apply W.exit
        | apply W.skip
        | apply SQr
        | apply SQe
        | apply BQn
        | apply BQr
        | apply BQe
        | (apply BQo; exact rfl)
        | apply LQe
        | apply LQr
        | (apply W.condT; exact rfl)
        | (apply W.condF; exact rfl)
        | (apply W.cond; exact rfl; all_goals intro _)
        | (apply WO.gtr; exact rfl; exact rfl; all_goals first | (intro _; exfalso; omega) | intro _)
        | (apply WO.eql; exact rfl; exact rfl; all_goals first | (intro _; exfalso; omega) | intro _)
        | (apply WO.neq; exact rfl; exact rfl; all_goals first | (intro _; exfalso; omega) | intro _)
        | (apply WO.ct; exact rfl; exact rfl; first | exact f1 | exact f2)
        | (apply WO.ctn; exact rfl; exact rfl; first | exact f1 | exact f2)
        | (apply WD.ct; exact rfl; exact rfl; exact rfl; first | exact f1 | exact f2)
        | (apply WO.cll; exact rfl; exact rfl; first | exact q1 _ | exact q4 _ | exact q5 _ | exact q6 _ | exact q7 _ | exact q96 _ _ rfl)
        | (apply WO.seql; exact rfl; exact rfl; all_goals first | (intro h; exact absurd h (by decide)) | (intro h; exact absurd rfl h) | (intro h; contradiction) | intro _)
        | (apply WO.sneq; exact rfl; exact rfl; all_goals first | (intro h; exact absurd h (by decide)) | (intro h; exact absurd rfl h) | (intro h; contradiction) | intro _)
        | (apply WO.clb; exact rfl; exact rfl; exact rfl; all_goals first | (intro h; exact absurd h (by decide)) | intro _)
        | (apply WO.cll; exact rfl; exact rfl; exact rfl)
        | (apply WO.hlv; exact rfl; exact rfl; exact rfl)
        | (apply WO.hpv; exact rfl; exact rfl; exact rfl)
        | (apply WO.hnv; exact rfl; exact rfl; exact rfl)
        | (apply WO.pl; exact rfl; exact rfl)
        | (apply WO.pp; exact rfl; exact rfl)
    all_goals exact ⟨.inr rfl, rfl, _, rfl, rfl, rfl⟩
  · by_cases h2 : 256 < w.length
    · rw [if_neg h1, if_pos h2] at q96
      refine run_of_W (by rw [C.ft]; exact ft98) (by simp) ?_
      unfold b98
      cases A <;> cases B
      all_goals
        repeat' first
          | apply W.seq
          | apply SQn
          | apply W.region
          | apply WO.nil
          | apply W.block
          | apply W.ret
          | apply W.exit
          | apply W.skip
          | apply SQr
          | apply SQe
          | apply BQn
          | apply BQr
          | apply BQe
          | (apply BQo; exact rfl)
          | apply LQe
          | apply LQr
          | (apply W.condT; exact rfl)
          | (apply W.condF; exact rfl)
          | (apply W.cond; exact rfl; all_goals intro _)
          | (apply WO.gtr; exact rfl; exact rfl; all_goals first | (intro _; exfalso; omega) | intro _)
          | (apply WO.eql; exact rfl; exact rfl; all_goals first | (intro _; exfalso; omega) | intro _)
          | (apply WO.neq; exact rfl; exact rfl; all_goals first | (intro _; exfalso; omega) | intro _)
          | (apply WO.ct; exact rfl; exact rfl; first | exact f1 | exact f2)
          | (apply WO.ctn; exact rfl; exact rfl; first | exact f1 | exact f2)
          | (apply WD.ct; exact rfl; exact rfl; exact rfl; first | exact f1 | exact f2)
          | (apply WO.cll; exact rfl; exact rfl; first | exact q2 _ | exact q3 _ | exact q5 _ | exact q6 _ | exact q7 _ | exact q96 _ _ rfl)
          | (apply WO.seql; exact rfl; exact rfl; all_goals first | (intro h; exact absurd h (by decide)) | (intro h; exact absurd rfl h) | (intro h; contradiction) | intro _)
          | (apply WO.sneq; exact rfl; exact rfl; all_goals first | (intro h; exact absurd h (by decide)) | (intro h; exact absurd rfl h) | (intro h; contradiction) | intro _)
          | (apply WO.clb; exact rfl; exact rfl; exact rfl; all_goals first | (intro h; exact absurd h (by decide)) | intro _)
          | (apply WO.cll; exact rfl; exact rfl; exact rfl)
          | (apply WO.hlv; exact rfl; exact rfl; exact rfl)
          | (apply WO.hpv; exact rfl; exact rfl; exact rfl)
          | (apply WO.hnv; exact rfl; exact rfl; exact rfl)
          | (apply WO.pl; exact rfl; exact rfl)
          | (apply WO.pp; exact rfl; exact rfl)
      all_goals exact ⟨.inr rfl, rfl, _, rfl, rfl, rfl⟩
    · rw [if_neg h1, if_neg h2] at q96
      refine run_of_W (by rw [C.ft]; exact ft98) (by simp) ?_
      unfold b98
      cases A <;> cases B
      all_goals
        repeat' first
          | apply W.seq
          | apply SQn
          | apply W.region
          | apply WO.nil
          | apply W.block
          | apply W.ret
          | apply W.exit
          | apply W.skip
          | apply SQr
          | apply SQe
          | apply BQn
          | apply BQr
          | apply BQe
          | (apply BQo; exact rfl)
          | apply LQe
          | apply LQr
          | (apply W.condT; exact rfl)
          | (apply W.condF; exact rfl)
          | (apply W.cond; exact rfl; all_goals intro _)
          | (apply WO.gtr; exact rfl; exact rfl; all_goals first | (intro _; exfalso; omega) | intro _)
          | (apply WO.eql; exact rfl; exact rfl; all_goals first | (intro _; exfalso; omega) | intro _)
          | (apply WO.neq; exact rfl; exact rfl; all_goals first | (intro _; exfalso; omega) | intro _)
          | (apply WO.ct; exact rfl; exact rfl; first | exact f1 | exact f2)
          | (apply WO.ctn; exact rfl; exact rfl; first | exact f1 | exact f2)
          | (apply WD.ct; exact rfl; exact rfl; exact rfl; first | exact f1 | exact f2)
          | (apply WO.cll; exact rfl; exact rfl; first | exact q2 _ | exact q4 _ | exact q5 _ | exact q6 _ | exact q7 _ | exact q96 _ _ rfl)
          | (apply WO.seql; exact rfl; exact rfl; all_goals first | (intro h; exact absurd h (by decide)) | (intro h; exact absurd rfl h) | (intro h; contradiction) | intro _)
          | (apply WO.sneq; exact rfl; exact rfl; all_goals first | (intro h; exact absurd h (by decide)) | (intro h; exact absurd rfl h) | (intro h; contradiction) | intro _)
          | (apply WO.clb; exact rfl; exact rfl; exact rfl; all_goals first | (intro h; exact absurd h (by decide)) | intro _)
          | (apply WO.cll; exact rfl; exact rfl; exact rfl)
          | (apply WO.hlv; exact rfl; exact rfl; exact rfl)
          | (apply WO.hpv; exact rfl; exact rfl; exact rfl)
          | (apply WO.hnv; exact rfl; exact rfl; exact rfl)
          | (apply WO.pl; exact rfl; exact rfl)
          | (apply WO.pp; exact rfl; exact rfl)
      all_goals exact ⟨.inr rfl, rfl, _, rfl, rfl, rfl⟩
end Go.Ab.Ch1

/-
  Own work: the reference's weights and shares: what they compute.
-/
namespace Go.Ab.Ch1
open Go.Ab.Sort
variable {M : Mach}

def okW (w : List Int) : Bool := w.all fun x => decide (0 ≤ x ∧ x ≤ 999999999)

theorem loop26 (w : List Int) (cap : Option Nat) (hn : w.length ≤ 256) {Q : Ex → StW → Prop} (h1 : okW w = false → ∀ a2 a3 lo wr, Q .ret ⟨⟨[.vs (ints w) w.length cap, .int .i64 3, a2, a3], lo, [], []⟩, wr⟩)
    (h2 : okW w = true → ∀ lo wr, Q (.exit 0) ⟨⟨[.vs (ints w) w.length cap, .int .i64 0, .int .i64 (Sort.sum w), .int .i64 w.length], lo, [], []⟩, wr⟩) : ∀ (r i : Nat), i + r = w.length → okW (w.take i) = true → ∀ (lo : List (Nat × AV)) (wr : List Nat),
    W M (.loop b26_0) ⟨⟨[.vs (ints w) w.length cap, .int .i64 0, .int .i64 (Sort.sum (w.take i)), .int .i64 i], lo, [], []⟩, wr⟩ Q
  | 0, i, hi, he, lo, wr => by
    obtain rfl : i = w.length := by omega
    rw [List.take_length] at he ⊢
    refine W.loop ?_
    unfold b26_0
    repeat' first
      | apply W.seq
      | apply SQn
      | apply W.region
      | apply WO.nil
      | apply W.block
      | apply W.ret
      | apply W.exit
      | apply W.skip
      | apply SQr
      | apply SQe
      | apply BQn
      | apply BQr
      | apply BQe
      | (apply BQo; exact rfl)
      | apply LQe
      | apply LQr
      | (apply W.condT; exact rfl)
      | (apply W.condF; exact rfl)
      | (apply W.cond; exact rfl; all_goals intro _)
      | (apply WO.gT; exact rfl)
      | (apply WO.gF; exact rfl)
      | (apply WO.sT; exact rfl)
      | (apply WO.sF; exact rfl)
      | (apply WO.sU; exact rfl)
      | (apply WO.lss; exact rfl; exact rfl; all_goals first | (intro _; exfalso; omega) | intro _)
      | (apply WO.gtr; exact rfl; exact rfl; all_goals first | (intro _; exfalso; omega) | intro _)
      | (apply WO.pkT; exact rfl; exact rfl)
      | (apply WO.pkF; exact rfl; exact rfl)
      | (apply WO.add; exact rfl; exact rfl; omega)
      | (apply WO.iav; exact rfl; exact rfl; omega)
      | (apply WO.ias; exact rfl; exact rfl; omega)
      | (apply WO.lda; exact rfl; exact fun _ => rfl; (first | omega | (simp only [List.length_set]; omega) | (simp; omega)); decide; exact rfl; case ia => infer_instance)
      | (apply WO.lsa; exact rfl; (first | exact rfl | assumption | exact at_new | (apply at_old; assumption) | (apply at_put; first | assumption | (simp only [put_length]; assumption))); exact fun _ => rfl; (first | omega | (simp only [List.length_set]; omega) | (simp; omega)); decide; exact rfl; case ia => infer_instance)
      | (apply WO.hlv; exact rfl; exact rfl; exact rfl)
      | (apply WO.hpv; exact rfl; exact rfl; exact rfl)
      | (apply WO.hnv; exact rfl; exact rfl; exact rfl)
      | (apply WO.pl; exact rfl; exact rfl)
      | (apply WO.pp; exact rfl; exact rfl)
    · exact h2 he _ _
  | r + 1, i, hi, he, lo, wr => by
    have hl : i < w.length := by omega
    have ei : ((i : Int)).toNat = i := by omega
    have b1 : ((i : Int)).toNat < w.length := by omega
    have hm : ∀ x ∈ w.take i, 0 ≤ x ∧ x ≤ 999999999 := by simpa [okW] using he
    have g1 := sum_nonneg fun x hx => (hm x hx).1
    have g2 := sum_le fun x hx => (hm x hx).2
    rw [List.length_take] at g2
    have g3 : (min i w.length : Nat) ≤ 256 := by omega
    have bad : ¬ (0 ≤ w[((i : Int)).toNat]! ∧ w[((i : Int)).toNat]! ≤ 999999999) → okW w = false := fun h => by
      cases hw : okW w
      · rfl
      · exact absurd ((show ∀ x ∈ w, 0 ≤ x ∧ x ≤ 999999999 by simpa [okW] using hw) _ (getD_mem b1)) h
    refine W.loop ?_
    unfold b26_0
    repeat' first
      | apply W.seq
      | apply SQn
      | apply W.region
      | apply WO.nil
      | apply W.block
      | apply W.ret
      | apply W.exit
      | apply W.skip
      | apply SQr
      | apply SQe
      | apply BQn
      | apply BQr
      | apply BQe
      | (apply BQo; exact rfl)
      | apply LQe
      | apply LQr
      | (apply W.condT; exact rfl)
      | (apply W.condF; exact rfl)
      | (apply W.cond; exact rfl; all_goals intro _)
      | (apply WO.gT; exact rfl)
      | (apply WO.gF; exact rfl)
      | (apply WO.sT; exact rfl)
      | (apply WO.sF; exact rfl)
      | (apply WO.sU; exact rfl)
      | (apply WO.lss; exact rfl; exact rfl; all_goals first | (intro _; exfalso; omega) | intro _)
      | (apply WO.gtr; exact rfl; exact rfl; all_goals first | (intro _; exfalso; omega) | intro _)
      | (apply WO.pkT; exact rfl; exact rfl)
      | (apply WO.pkF; exact rfl; exact rfl)
      | (apply WO.add; exact rfl; exact rfl; omega)
      | (apply WO.iav; exact rfl; exact rfl; omega)
      | (apply WO.ias; exact rfl; exact rfl; omega)
      | (apply WO.lda; exact rfl; exact fun _ => rfl; (first | omega | (simp only [List.length_set]; omega) | (simp; omega)); decide; exact rfl; case ia => infer_instance)
      | (apply WO.lsa; exact rfl; (first | exact rfl | assumption | exact at_new | (apply at_old; assumption) | (apply at_put; first | assumption | (simp only [put_length]; assumption))); exact fun _ => rfl; (first | omega | (simp only [List.length_set]; omega) | (simp; omega)); decide; exact rfl; case ia => infer_instance)
      | (apply WO.hlv; exact rfl; exact rfl; exact rfl)
      | (apply WO.hpv; exact rfl; exact rfl; exact rfl)
      | (apply WO.hnv; exact rfl; exact rfl; exact rfl)
      | (apply WO.pl; exact rfl; exact rfl)
      | (apply WO.pp; exact rfl; exact rfl)
    · exact h1 (bad (by omega)) _ _ _ _
    · exact h1 (bad (by omega)) _ _ _ _
    · refine LQn ?_
      have e2 : Sort.sum (w.take i) + w[((i : Int)).toNat]! = Sort.sum (w.take (i + 1)) := by
        rw [take_snoc hl, sum_append, ei]; simp [Sort.sum]
      have e3 : okW (w.take (i + 1)) = true := by
        rw [ei] at *
        unfold okW at he ⊢
        rw [take_snoc hl, List.all_append, he]
        simp only [List.all_cons, List.all_nil, Bool.and_true, Bool.true_and, decide_eq_true_eq]
        omega
      have ih := loop26 (Q := Q) w cap hn h1 h2 r (i + 1) (by omega) e3
      rw [← e2] at ih
      exact ih _ _

theorem w26 (hft : M.FT = FT) (w : List Int) (cap : Option Nat) : Run M 26 [.vs (ints w) w.length cap] [] ⟨.int .i64 (checkW w), [], []⟩ := by
  by_cases c1 : w.length = 0
  · have c1' : (w.length : Int) = 0 := by omega
    have e : checkW w = 12 := by unfold checkW; rw [if_pos c1]
    rw [e]
    refine run_of_W (by rw [hft]; exact ft26) (by simp) ?_
    unfold b26
    repeat' first
      | apply W.seq
      | apply SQn
      | apply W.region
      | apply WO.nil
      | apply W.block
      | apply W.ret
      | apply W.exit
      | apply W.skip
      | apply SQr
      | apply SQe
      | apply BQn
      | apply BQr
      | apply BQe
      | (apply BQo; exact rfl)
      | apply LQe
      | apply LQr
      | (apply W.condT; exact rfl)
      | (apply W.condF; exact rfl)
      | (apply W.cond; exact rfl; all_goals intro _)
      | (apply WO.gtr; exact rfl; exact rfl; all_goals first | (intro _; exfalso; omega) | intro _)
      | (apply WO.eql; exact rfl; exact rfl; all_goals first | (intro _; exfalso; omega) | intro _)
      | (apply WO.seql; exact rfl; exact rfl; all_goals first | (intro h; exact absurd h (by decide)) | (intro h; exact absurd rfl h) | (intro h; contradiction) | intro _)
      | (apply WO.pl; exact rfl; exact rfl)
      | (apply WO.pp; exact rfl; exact rfl)
    exact ⟨.inr rfl, rfl, _, rfl, rfl, rfl⟩
  by_cases c2 : 256 < w.length
  · have e : checkW w = 5 := by unfold checkW; rw [if_neg c1, if_pos c2]
    rw [e]
    refine run_of_W (by rw [hft]; exact ft26) (by simp) ?_
    unfold b26
    repeat' first
      | apply W.seq
      | apply SQn
      | apply W.region
      | apply WO.nil
      | apply W.block
      | apply W.ret
      | apply W.exit
      | apply W.skip
      | apply SQr
      | apply SQe
      | apply BQn
      | apply BQr
      | apply BQe
      | (apply BQo; exact rfl)
      | apply LQe
      | apply LQr
      | (apply W.condT; exact rfl)
      | (apply W.condF; exact rfl)
      | (apply W.cond; exact rfl; all_goals intro _)
      | (apply WO.gtr; exact rfl; exact rfl; all_goals first | (intro _; exfalso; omega) | intro _)
      | (apply WO.eql; exact rfl; exact rfl; all_goals first | (intro _; exfalso; omega) | intro _)
      | (apply WO.seql; exact rfl; exact rfl; all_goals first | (intro h; exact absurd h (by decide)) | (intro h; exact absurd rfl h) | (intro h; contradiction) | intro _)
      | (apply WO.pl; exact rfl; exact rfl)
      | (apply WO.pp; exact rfl; exact rfl)
    exact ⟨.inr rfl, rfl, _, rfl, rfl, rfl⟩
  refine run_of_W (by rw [hft]; exact ft26) (by simp) ?_
  unfold b26
  simp only [List.map_cons, List.map_nil, List.getElem?_cons_zero, List.getElem?_cons_succ, List.getElem?_nil, Option.getD_some, Option.getD_none]
  repeat' first
    | apply W.seq
    | apply SQn
    | apply W.region
    | apply WO.nil
    | apply W.block
    | apply W.ret
    | apply W.exit
    | apply W.skip
    | apply SQr
    | apply SQe
    | apply BQn
    | apply BQr
    | apply BQe
    | (apply BQo; exact rfl)
    | apply LQe
    | apply LQr
    | (apply W.condT; exact rfl)
    | (apply W.condF; exact rfl)
    | (apply W.cond; exact rfl; all_goals intro _)
    | (apply WO.gtr; exact rfl; exact rfl; all_goals first | (intro _; exfalso; omega) | intro _)
    | (apply WO.eql; exact rfl; exact rfl; all_goals first | (intro _; exfalso; omega) | intro _)
    | (apply WO.seql; exact rfl; exact rfl; all_goals first | (intro h; exact absurd h (by decide)) | (intro h; exact absurd rfl h) | (intro h; contradiction) | intro _)
    | (apply WO.pl; exact rfl; exact rfl)
    | (apply WO.pp; exact rfl; exact rfl)
  refine loop26 w cap (by omega) (fun h a2 a3 lo wr => ?_) (fun h lo wr => ?_) w.length 0 (by omega) rfl _ _
  · have e : checkW w = 3 := by unfold checkW; rw [if_neg c1, if_neg c2]; exact if_pos h
    rw [e]
    repeat' first
      | apply W.seq
      | apply SQn
      | apply W.region
      | apply WO.nil
      | apply W.block
      | apply W.ret
      | apply W.exit
      | apply W.skip
      | apply SQr
      | apply SQe
      | apply BQn
      | apply BQr
      | apply BQe
      | (apply BQo; exact rfl)
      | apply LQe
      | apply LQr
      | (apply W.condT; exact rfl)
      | (apply W.condF; exact rfl)
      | (apply W.cond; exact rfl; all_goals intro _)
      | (apply WO.gtr; exact rfl; exact rfl; all_goals first | (intro _; exfalso; omega) | intro _)
      | (apply WO.eql; exact rfl; exact rfl; all_goals first | (intro _; exfalso; omega) | intro _)
      | (apply WO.seql; exact rfl; exact rfl; all_goals first | (intro h; exact absurd h (by decide)) | (intro h; exact absurd rfl h) | (intro h; contradiction) | intro _)
      | (apply WO.pl; exact rfl; exact rfl)
      | (apply WO.pp; exact rfl; exact rfl)
    exact ⟨.inr rfl, rfl, _, rfl, rfl, rfl⟩
  · have hm : ∀ x ∈ w, 0 ≤ x ∧ x ≤ 999999999 := by simpa [okW] using h
    have hz : Sort.sum w = 0 ↔ (w.all fun x => decide (x = 0)) = true := by
      constructor
      · intro hs
        have := sum_zero (fun x hx => (hm x hx).1) hs
        simpa using this
      · intro ha
        have ha' : ∀ x ∈ w, x = 0 := by simpa using ha
        have g1 := sum_nonneg fun x hx => (hm x hx).1
        have g2 := sum_le (l := w) (m := 0) fun x hx => by rw [ha' x hx]; exact Int.le_refl _
        omega
    have h' : ¬ (w.all fun x => decide (0 ≤ x ∧ x ≤ 999999999)) = false := by
      intro hc; unfold okW at h; rw [hc] at h; cases h
    repeat' first
      | apply W.seq
      | apply SQn
      | apply W.region
      | apply WO.nil
      | apply W.block
      | apply W.ret
      | apply W.exit
      | apply W.skip
      | apply SQr
      | apply SQe
      | apply BQn
      | apply BQr
      | apply BQe
      | (apply BQo; exact rfl)
      | apply LQe
      | apply LQr
      | (apply W.condT; exact rfl)
      | (apply W.condF; exact rfl)
      | (apply W.cond; exact rfl; all_goals intro _)
      | (apply WO.gtr; exact rfl; exact rfl; all_goals first | (intro _; exfalso; omega) | intro _)
      | (apply WO.eql; exact rfl; exact rfl; all_goals first | (intro _; exfalso; omega) | intro _)
      | (apply WO.seql; exact rfl; exact rfl; all_goals first | (intro h; exact absurd h (by decide)) | (intro h; exact absurd rfl h) | (intro h; contradiction) | intro _)
      | (apply WO.pl; exact rfl; exact rfl)
      | (apply WO.pp; exact rfl; exact rfl)
    · rename_i hs
      have e : checkW w = 6 := by unfold checkW; rw [if_neg c1, if_neg c2, if_neg h', if_pos (hz.1 hs)]
      rw [e]
      exact ⟨.inr rfl, rfl, _, rfl, rfl, rfl⟩
    · rename_i hs
      have e : checkW w = 0 := by unfold checkW; rw [if_neg c1, if_neg c2, if_neg h', if_neg fun hc => hs (hz.2 hc)]
      rw [e]
      exact ⟨.inr rfl, rfl, _, rfl, rfl, rfl⟩

/-! stadionref01.Shares. -/
theorem loop27_0 (w : List Int) (cap : Option Nat) (hm : ∀ x ∈ w, 0 ≤ x ∧ x ≤ 999999999) (hn : w.length ≤ 256) (a0 a2 a5 a6 a7 a8 a9 a10 : AV) {Q : Ex → StW → Prop} (h2 : ∀ lo wr, Q (.exit 0) ⟨⟨[a0, .vs (ints w) w.length cap, a2, .int .i64 (Sort.sum w), .int .i64 w.length, a5, a6, a7, a8, a9, a10], lo, [], []⟩, wr⟩) : ∀ (r i : Nat), i + r = w.length → ∀ (lo : List (Nat × AV)) (wr : List Nat),
    W M (.loop b27_0) ⟨⟨[a0, .vs (ints w) w.length cap, a2, .int .i64 (Sort.sum (w.take i)), .int .i64 i, a5, a6, a7, a8, a9, a10], lo, [], []⟩, wr⟩ Q
  | 0, i, hi, lo, wr => by
    obtain rfl : i = w.length := by omega
    rw [List.take_length]
    refine W.loop ?_
    unfold b27_0
    repeat' first
      | apply W.seq
      | apply SQn
      | apply W.region
      | apply WO.nil
      | apply W.block
      | apply W.ret
      | apply W.exit
      | apply W.skip
      | apply SQr
      | apply SQe
      | apply BQn
      | apply BQr
      | apply BQe
      | (apply BQo; exact rfl)
      | apply LQe
      | apply LQr
      | (apply W.condT; exact rfl)
      | (apply W.condF; exact rfl)
      | (apply W.cond; exact rfl; all_goals intro _)
      | (apply WO.lss; exact rfl; exact rfl; all_goals first | (intro _; exfalso; omega) | intro _)
      | (apply WO.add; exact rfl; exact rfl; omega)
      | (apply WO.iav; exact rfl; exact rfl; omega)
      | (apply WO.ias; exact rfl; exact rfl; omega)
      | (apply WO.lda; exact rfl; exact fun _ => rfl; (first | omega | (simp only [List.length_set]; omega) | (simp; omega)); decide; exact rfl; case ia => infer_instance)
      | (apply WO.lsa; exact rfl; (first | exact rfl | assumption | exact at_new | (apply at_old; assumption) | (apply at_put; first | assumption | (simp only [put_length]; assumption))); exact fun _ => rfl; (first | omega | (simp only [List.length_set]; omega) | (simp; omega)); decide; exact rfl; case ia => infer_instance)
      | (apply WO.hlv; exact rfl; exact rfl; exact rfl)
      | (apply WO.hpv; exact rfl; exact rfl; exact rfl)
      | (apply WO.hnv; exact rfl; exact rfl; exact rfl)
      | (apply WO.pl; exact rfl; exact rfl)
      | (apply WO.pp; exact rfl; exact rfl)
    · exact h2 _ _
  | r + 1, i, hi, lo, wr => by
    have hl : i < w.length := by omega
    have ei : ((i : Int)).toNat = i := by omega
    have b1 : ((i : Int)).toNat < w.length := by omega
    have g1 := sum_take (fun x hx => (hm x hx).1) i
    have g2 := sum_le fun x hx => (hm x hx).2
    have g3 := hm _ (getD_mem b1)
    refine W.loop ?_
    unfold b27_0
    repeat' first
      | apply W.seq
      | apply SQn
      | apply W.region
      | apply WO.nil
      | apply W.block
      | apply W.ret
      | apply W.exit
      | apply W.skip
      | apply SQr
      | apply SQe
      | apply BQn
      | apply BQr
      | apply BQe
      | (apply BQo; exact rfl)
      | apply LQe
      | apply LQr
      | (apply W.condT; exact rfl)
      | (apply W.condF; exact rfl)
      | (apply W.cond; exact rfl; all_goals intro _)
      | (apply WO.lss; exact rfl; exact rfl; all_goals first | (intro _; exfalso; omega) | intro _)
      | (apply WO.add; exact rfl; exact rfl; omega)
      | (apply WO.iav; exact rfl; exact rfl; omega)
      | (apply WO.ias; exact rfl; exact rfl; omega)
      | (apply WO.lda; exact rfl; exact fun _ => rfl; (first | omega | (simp only [List.length_set]; omega) | (simp; omega)); decide; exact rfl; case ia => infer_instance)
      | (apply WO.lsa; exact rfl; (first | exact rfl | assumption | exact at_new | (apply at_old; assumption) | (apply at_put; first | assumption | (simp only [put_length]; assumption))); exact fun _ => rfl; (first | omega | (simp only [List.length_set]; omega) | (simp; omega)); decide; exact rfl; case ia => infer_instance)
      | (apply WO.hlv; exact rfl; exact rfl; exact rfl)
      | (apply WO.hpv; exact rfl; exact rfl; exact rfl)
      | (apply WO.hnv; exact rfl; exact rfl; exact rfl)
      | (apply WO.pl; exact rfl; exact rfl)
      | (apply WO.pp; exact rfl; exact rfl)
    refine LQn ?_
    have e2 : Sort.sum (w.take i) + w[((i : Int)).toNat]! = Sort.sum (w.take (i + 1)) := by
      rw [take_snoc hl, sum_append, ei]; simp [Sort.sum]
    have ih := loop27_0 (Q := Q) w cap hm hn a0 a2 a5 a6 a7 a8 a9 a10 h2 r (i + 1) (by omega)
    rw [← e2] at ih
    exact ih _ _

theorem set_take_drop {l B : List Int} {i : Nat} {x : Int} (hl : i < l.length) (hB : i < B.length) (hx : B[i]! = x) : (l.set i x).take (i + 1) ++ B.drop (i + 1) = l.take i ++ B.drop i := by
  have t1 : (l.set i x).take (i + 1) = l.take i ++ [x] := by
    rw [List.take_add_one, List.take_set_of_le (Nat.le_refl _), List.getElem?_set]
    simp [hl]
  rw [t1, List.drop_eq_getElem_cons hB, ← hx, getElem!_pos B i hB]
  simp

def rems (total : Int) (w : List Int) : List Int := w.map fun x => total * x % Sort.sum w
theorem rems_length {total : Int} {w : List Int} : (rems total w).length = w.length := by simp [rems]
theorem rems_get {total : Int} {w : List Int} {i : Nat} (h : i < w.length) : (rems total w)[i]! = total * w[i]! % Sort.sum w := by
  rw [getElem!_pos w i h, getElem!_pos (rems total w) i (by rw [rems_length]; exact h)]
  simp [rems]

set_option maxHeartbeats 2000000 in
theorem loop27_1 {total : Int} {w : List Int} (hw : wOK total w) (cap : Option Nat) (a2 a4 a9 a10 : AV) {Q : Ex → StW → Prop} (hQ : ∀ lo wr, Q (.exit 2) ⟨⟨[.int .i64 total, .vs (ints w) w.length cap, a2, .int .i64 (Sort.sum w), a4, .sl 0 0 w.length 1 (some w.length), .sl 1 0 w.length 1 (some w.length), .int .i64 (remain total w), .int .i64 w.length, a9, a10], lo, [some (.cells (ints (base total w)) 3), some (.cells (ints (rems total w)) 3)], []⟩, wr⟩) : ∀ (r i : Nat), i + r = w.length → ∀ (l m : List Int) (lo : List (Nat × AV)) (wr : List Nat), l.length = w.length → m.length = w.length → l.take i ++ (base total w).drop i = base total w → m.take i ++ (rems total w).drop i = rems total w →
    W M (.loop b27_1) ⟨⟨[.int .i64 total, .vs (ints w) w.length cap, a2, .int .i64 (Sort.sum w), a4, .sl 0 0 w.length 1 (some w.length), .sl 1 0 w.length 1 (some w.length), .int .i64 (total - Sort.sum ((base total w).take i)), .int .i64 i, a9, a10], lo, [some (.cells (ints l) 3), some (.cells (ints m) 3)], []⟩, wr⟩ Q
  | 0, i, hi, l, m, lo, wr, hl, hm, e1, e2 => by
    obtain rfl : i = w.length := by omega
    rw [List.drop_of_length_le (by rw [base_length]; exact Nat.le_refl _), List.append_nil, List.take_of_length_le (by omega)] at e1
    rw [List.drop_of_length_le (by rw [rems_length]; exact Nat.le_refl _), List.append_nil, List.take_of_length_le (by omega)] at e2
    rw [List.take_of_length_le (by rw [base_length]; exact Nat.le_refl _), e1, e2]
    refine W.loop ?_
    unfold b27_1
    repeat' first
      | apply W.seq
      | apply SQn
      | apply W.region
      | apply WO.nil
      | apply W.block
      | apply W.ret
      | apply W.exit
      | apply W.skip
      | apply SQr
      | apply SQe
      | apply BQn
      | apply BQr
      | apply BQe
      | (apply BQo; exact rfl)
      | apply LQe
      | apply LQr
      | (apply W.condT; exact rfl)
      | (apply W.condF; exact rfl)
      | (apply W.cond; exact rfl; all_goals intro _)
      | (apply WO.lss; exact rfl; exact rfl; all_goals first | (intro _; exfalso; omega) | intro _)
      | (apply WO.add; exact rfl; exact rfl; omega)
      | (apply WO.sub; exact rfl; exact rfl; omega)
      | (apply WO.mul; exact rfl; exact rfl; omega)
      | (apply WO.remp; exact rfl; exact rfl; omega; intro _ _)
      | (apply WO.remn; exact rfl; exact rfl; omega; intro _ _)
      | (apply WO.quop; exact rfl; exact rfl; omega; omega; intro _ _)
      | (apply WO.quon; exact rfl; exact rfl; omega; omega; intro _ _)
      | (apply WO.rem; exact rfl; exact rfl; omega)
      | (apply WO.quo; exact rfl; exact rfl; omega; omega)
      | (apply WO.iav; exact rfl; exact rfl; omega)
      | (apply WO.ias; exact rfl; exact rfl; omega)
      | (apply WO.lda; exact rfl; exact fun _ => rfl; (first | omega | (simp only [List.length_set]; omega) | (simp; omega)); decide; exact rfl; case ia => infer_instance)
      | (apply WO.lsa; exact rfl; (first | exact rfl | assumption | exact at_new | (apply at_old; assumption) | (apply at_put; first | assumption | (simp only [put_length]; assumption))); exact fun _ => rfl; (first | omega | (simp only [List.length_set]; omega) | (simp; omega)); decide; exact rfl; case ia => infer_instance)
      | (apply WO.sta; exact rfl; exact rfl; (first | exact rfl | assumption | exact at_new | (apply at_old; assumption) | (apply at_put; first | assumption | (simp only [put_length]; assumption))); exact fun _ => rfl; (first | omega | (simp only [List.length_set]; omega) | (simp; omega)); exact ⟨rfl, by decide, rfl⟩; exact rfl; case ia => infer_instance)
      | (apply WO.hlv; exact rfl; exact rfl; exact rfl)
      | (apply WO.hpv; exact rfl; exact rfl; exact rfl)
      | (apply WO.hnv; exact rfl; exact rfl; exact rfl)
      | (apply WO.pl; exact rfl; exact rfl)
      | (apply WO.pp; exact rfl; exact rfl)
    · exact hQ _ _
  | r + 1, i, hi, l, m, lo, wr, hl, hm, e1, e2 => by
    have hil : i < w.length := by omega
    have ei : ((i : Int)).toNat = i := by omega
    have b1 : ((i : Int)).toNat < w.length := by omega
    have b2 : ((i : Int)).toNat < l.length := by omega
    have b3 : ((i : Int)).toNat < m.length := by omega
    have m1 := hw.mul (getD_mem b1)
    have s1 := hw.sum
    have hn := hw.2.2.2.2
    have ht := hw.2.1
    have g1 := base_sum hw i
    have g2 := base_sum hw (i + 1)
    have v1 : (l.set ((i : Int)).toNat (total * w[((i : Int)).toNat]! / Sort.sum w))[((i : Int)).toNat]! = total * w[((i : Int)).toNat]! / Sort.sum w := by
      rw [getElem!_pos _ _ (by rw [List.length_set]; exact b2)]; simp
    have eb : (base total w).take (i + 1) = (base total w).take i ++ [total * w[((i : Int)).toNat]! / Sort.sum w] := by
      rw [take_snoc (by rw [base_length]; exact hil), base_get hil, ei]
    have g3 : Sort.sum ((base total w).take (i + 1)) = Sort.sum ((base total w).take i) + total * w[((i : Int)).toNat]! / Sort.sum w := by
      rw [eb, sum_append]; simp [Sort.sum]
    have b4 : ((i : Int)).toNat < (l.set ((i : Int)).toNat (total * w[((i : Int)).toNat]! / Sort.sum w)).length := by rw [List.length_set]; exact b2
    rw [← v1] at g3
    refine W.loop ?_
    unfold b27_1
    repeat' first
      | apply W.seq
      | apply SQn
      | apply W.region
      | apply WO.nil
      | apply W.block
      | apply W.ret
      | apply W.exit
      | apply W.skip
      | apply SQr
      | apply SQe
      | apply BQn
      | apply BQr
      | apply BQe
      | (apply BQo; exact rfl)
      | apply LQe
      | apply LQr
      | (apply W.condT; exact rfl)
      | (apply W.condF; exact rfl)
      | (apply W.cond; exact rfl; all_goals intro _)
      | (apply WO.lss; exact rfl; exact rfl; all_goals first | (intro _; exfalso; omega) | intro _)
      | (apply WO.add; exact rfl; exact rfl; omega)
      | (apply WO.sub; exact rfl; exact rfl; omega)
      | (apply WO.mul; exact rfl; exact rfl; omega)
      | (apply WO.remp; exact rfl; exact rfl; omega; intro _ _)
      | (apply WO.remn; exact rfl; exact rfl; omega; intro _ _)
      | (apply WO.quop; exact rfl; exact rfl; omega; omega; intro _ _)
      | (apply WO.quon; exact rfl; exact rfl; omega; omega; intro _ _)
      | (apply WO.rem; exact rfl; exact rfl; omega)
      | (apply WO.quo; exact rfl; exact rfl; omega; omega)
      | (apply WO.iav; exact rfl; exact rfl; omega)
      | (apply WO.ias; exact rfl; exact rfl; omega)
      | (apply WO.lda; exact rfl; exact fun _ => rfl; (first | omega | (simp only [List.length_set]; omega) | (simp; omega)); decide; exact rfl; case ia => infer_instance)
      | (apply WO.lsa; exact rfl; (first | exact rfl | assumption | exact at_new | (apply at_old; assumption) | (apply at_put; first | assumption | (simp only [put_length]; assumption))); exact fun _ => rfl; (first | omega | (simp only [List.length_set]; omega) | (simp; omega)); decide; exact rfl; case ia => infer_instance)
      | (apply WO.sta; exact rfl; exact rfl; (first | exact rfl | assumption | exact at_new | (apply at_old; assumption) | (apply at_put; first | assumption | (simp only [put_length]; assumption))); exact fun _ => rfl; (first | omega | (simp only [List.length_set]; omega) | (simp; omega)); exact ⟨rfl, by decide, rfl⟩; exact rfl; case ia => infer_instance)
      | (apply WO.hlv; exact rfl; exact rfl; exact rfl)
      | (apply WO.hpv; exact rfl; exact rfl; exact rfl)
      | (apply WO.hnv; exact rfl; exact rfl; exact rfl)
      | (apply WO.pl; exact rfl; exact rfl)
      | (apply WO.pp; exact rfl; exact rfl)
    refine LQn ?_
    rw [show total - Sort.sum ((base total w).take i) - (l.set ((i : Int)).toNat (total * w[((i : Int)).toNat]! / Sort.sum w))[((i : Int)).toNat]! = total - Sort.sum ((base total w).take (i + 1)) by omega]
    exact loop27_1 hw cap a2 a4 a9 a10 hQ r (i + 1) (by omega) _ _ _ _ (by simp [hl]) (by simp [hm])
      (by rw [ei]; exact (set_take_drop (by omega) (by rw [base_length]; exact hil) (base_get hil)).trans e1) (by rw [ei]; exact (set_take_drop (by omega) (by rw [rems_length]; exact hil) (rems_get hil)).trans e2)

/-- The search for the first of the greatest rests. -/
theorem loop27_2 (R : List Int) (n : Nat) (hR : R.length = n) (hn : n ≤ 256) (a0 a2 a3 a4 a5 a7 a8 : AV) (w : List Int) (hw : w.length = n) (cap : Option Nat) (O : Option Blk) {Q : Ex → StW → Prop} : ∀ (r i b : Nat), i + r = n → b < i → (∀ j, j < b → R[j]! < R[b]!) → (∀ j, b < j → j < i → R[j]! ≤ R[b]!) → ∀ (lo : List (Nat × AV)) (wr : List Nat),
    (∀ (b : Nat) lo, b < n → (∀ j, j < b → R[j]! < R[b]!) → (∀ j, b < j → j < n → R[j]! ≤ R[b]!) → Q (.exit 6) ⟨⟨[a0, .vs (ints w) w.length cap, a2, a3, a4, a5, .sl 1 0 n 1 (some n), a7, a8, .int .i64 b, .int .i64 n], lo, [O, some (.cells (ints R) 3)], []⟩, wr⟩) →
    W M (.loop b27_2) ⟨⟨[a0, .vs (ints w) w.length cap, a2, a3, a4, a5, .sl 1 0 n 1 (some n), a7, a8, .int .i64 b, .int .i64 i], lo, [O, some (.cells (ints R) 3)], []⟩, wr⟩ Q
  | 0, i, b, hi, hb, h1, h2, lo, wr, hQ => by
    obtain rfl : i = n := by omega
    refine W.loop ?_
    unfold b27_2
    repeat' first
      | apply W.seq
      | apply SQn
      | apply W.region
      | apply WO.nil
      | apply W.block
      | apply W.ret
      | apply W.exit
      | apply W.skip
      | apply SQr
      | apply SQe
      | apply BQn
      | apply BQr
      | apply BQe
      | (apply BQo; exact rfl)
      | apply LQe
      | apply LQr
      | (apply W.drawro; exact rfl)
      | apply W.draw
      | apply WD.nil
      | (apply WD.gT; exact rfl)
      | (apply WD.gF; exact rfl)
      | (apply WD.sT; exact rfl)
      | (apply WD.sF; exact rfl)
      | (apply WD.sU; exact rfl)
      | (apply WD.pure1; exact rfl)
      | (apply WD.load1; exact rfl; exact rfl; exact rfl)
      | (apply W.condT; exact rfl)
      | (apply W.condF; exact rfl)
      | (apply W.cond; exact rfl; all_goals intro _)
      | (apply WO.lss; exact rfl; exact rfl; all_goals first | (intro _; exfalso; omega) | intro _)
      | (apply WO.gtr; exact rfl; exact rfl; all_goals first | (intro _; exfalso; omega) | intro _)
      | (apply WO.add; exact rfl; exact rfl; omega)
      | (apply WO.iav; exact rfl; exact rfl; omega)
      | (apply WO.ias; exact rfl; exact rfl; omega)
      | (apply WO.lda; exact rfl; exact fun _ => rfl; (first | omega | (simp only [List.length_set]; omega) | (simp; omega)); decide; exact rfl; case ia => infer_instance)
      | (apply WO.lsa; exact rfl; (first | exact rfl | assumption | exact at_new | (apply at_old; assumption) | (apply at_put; first | assumption | (simp only [put_length]; assumption))); exact fun _ => rfl; (first | omega | (simp only [List.length_set]; omega) | (simp; omega)); decide; exact rfl; case ia => infer_instance)
      | (apply WO.hlv; exact rfl; exact rfl; exact rfl)
      | (apply WO.hpv; exact rfl; exact rfl; exact rfl)
      | (apply WO.hnv; exact rfl; exact rfl; exact rfl)
      | (apply WO.pl; exact rfl; exact rfl)
      | (apply WO.pp; exact rfl; exact rfl)
    · exact hQ b _ hb h1 h2
  | r + 1, i, b, hi, hb, h1, h2, lo, wr, hQ => by
    have ei : ((i : Int)).toNat = i := by omega
    have eb : ((b : Int)).toNat = b := by omega
    have b1 : ((i : Int)).toNat < R.length := by omega
    have b2 : ((b : Int)).toNat < R.length := by omega
    refine W.loop ?_
    by_cases hd : R[b]! < R[i]!
    · have hd' : R[((b : Int)).toNat]! < R[((i : Int)).toNat]! := by rw [ei, eb]; exact hd
      unfold b27_2
      repeat' first
        | apply W.seq
        | apply SQn
        | apply W.region
        | apply WO.nil
        | apply W.block
        | apply W.ret
        | apply W.exit
        | apply W.skip
        | apply SQr
        | apply SQe
        | apply BQn
        | apply BQr
        | apply BQe
        | (apply BQo; exact rfl)
        | apply LQe
        | apply LQr
        | (apply W.drawro; exact rfl)
        | apply W.draw
        | apply WD.nil
        | (apply WD.gT; exact rfl)
        | (apply WD.gF; exact rfl)
        | (apply WD.sT; exact rfl)
        | (apply WD.sF; exact rfl)
        | (apply WD.sU; exact rfl)
        | (apply WD.pure1; exact rfl)
        | (apply WD.load1; exact rfl; exact rfl; exact rfl)
        | (apply W.condT; exact rfl)
        | (apply W.condF; exact rfl)
        | (apply W.cond; exact rfl; all_goals intro _)
        | (apply WO.lss; exact rfl; exact rfl; all_goals first | (intro _; exfalso; omega) | intro _)
        | (apply WO.gtr; exact rfl; exact rfl; all_goals first | (intro _; exfalso; omega) | intro _)
        | (apply WO.add; exact rfl; exact rfl; omega)
        | (apply WO.iav; exact rfl; exact rfl; omega)
        | (apply WO.ias; exact rfl; exact rfl; omega)
        | (apply WO.lda; exact rfl; exact fun _ => rfl; (first | omega | (simp only [List.length_set]; omega) | (simp; omega)); decide; exact rfl; case ia => infer_instance)
        | (apply WO.lsa; exact rfl; (first | exact rfl | assumption | exact at_new | (apply at_old; assumption) | (apply at_put; first | assumption | (simp only [put_length]; assumption))); exact fun _ => rfl; (first | omega | (simp only [List.length_set]; omega) | (simp; omega)); decide; exact rfl; case ia => infer_instance)
        | (apply WO.hlv; exact rfl; exact rfl; exact rfl)
        | (apply WO.hpv; exact rfl; exact rfl; exact rfl)
        | (apply WO.hnv; exact rfl; exact rfl; exact rfl)
        | (apply WO.pl; exact rfl; exact rfl)
        | (apply WO.pp; exact rfl; exact rfl)
      refine LQn ?_
      exact loop27_2 R n hR hn a0 a2 a3 a4 a5 a7 a8 w hw cap O r (i + 1) i (by omega) (by omega) (fun j hj => by
        rcases Nat.lt_trichotomy j b with h | rfl | h
        · exact Int.lt_trans (h1 j h) hd
        · exact hd
        · exact Int.lt_of_le_of_lt (h2 j h hj) hd) (fun j h3 h4 => by omega) _ _ hQ
    · have hd' : R[((i : Int)).toNat]! ≤ R[((b : Int)).toNat]! := by rw [ei, eb]; omega
      unfold b27_2
      repeat' first
        | apply W.seq
        | apply SQn
        | apply W.region
        | apply WO.nil
        | apply W.block
        | apply W.ret
        | apply W.exit
        | apply W.skip
        | apply SQr
        | apply SQe
        | apply BQn
        | apply BQr
        | apply BQe
        | (apply BQo; exact rfl)
        | apply LQe
        | apply LQr
        | (apply W.drawro; exact rfl)
        | apply W.draw
        | apply WD.nil
        | (apply WD.gT; exact rfl)
        | (apply WD.gF; exact rfl)
        | (apply WD.sT; exact rfl)
        | (apply WD.sF; exact rfl)
        | (apply WD.sU; exact rfl)
        | (apply WD.pure1; exact rfl)
        | (apply WD.load1; exact rfl; exact rfl; exact rfl)
        | (apply W.condT; exact rfl)
        | (apply W.condF; exact rfl)
        | (apply W.cond; exact rfl; all_goals intro _)
        | (apply WO.lss; exact rfl; exact rfl; all_goals first | (intro _; exfalso; omega) | intro _)
        | (apply WO.gtr; exact rfl; exact rfl; all_goals first | (intro _; exfalso; omega) | intro _)
        | (apply WO.add; exact rfl; exact rfl; omega)
        | (apply WO.iav; exact rfl; exact rfl; omega)
        | (apply WO.ias; exact rfl; exact rfl; omega)
        | (apply WO.lda; exact rfl; exact fun _ => rfl; (first | omega | (simp only [List.length_set]; omega) | (simp; omega)); decide; exact rfl; case ia => infer_instance)
        | (apply WO.lsa; exact rfl; (first | exact rfl | assumption | exact at_new | (apply at_old; assumption) | (apply at_put; first | assumption | (simp only [put_length]; assumption))); exact fun _ => rfl; (first | omega | (simp only [List.length_set]; omega) | (simp; omega)); decide; exact rfl; case ia => infer_instance)
        | (apply WO.hlv; exact rfl; exact rfl; exact rfl)
        | (apply WO.hpv; exact rfl; exact rfl; exact rfl)
        | (apply WO.hnv; exact rfl; exact rfl; exact rfl)
        | (apply WO.pl; exact rfl; exact rfl)
        | (apply WO.pp; exact rfl; exact rfl)
      refine LQn ?_
      exact loop27_2 R n hR hn a0 a2 a3 a4 a5 a7 a8 w hw cap O r (i + 1) b (by omega) (by omega) h1 (fun j h3 h4 => by
        rcases Nat.lt_or_eq_of_le (Nat.le_of_lt_succ h4) with h | rfl
        · exact h2 j h3 h
        · rw [ei, eb] at hd'; exact hd') _ _ hQ

set_option maxHeartbeats 2000000 in
theorem loop27_3 {total : Int} {w : List Int} (hw : wOK total w) (t0 : Nat) (ht0 : t0 < w.length) (cap : Option Nat) (a0 a2 a3 a4 a8 : AV) {Q : Ex → StW → Prop} : ∀ (r t : Nat), t + r = t0 → ∀ (a9 a10 : AV) (lo : List (Nat × AV)) (wr : List Nat),
    (∀ a9 a10 lo wr R, Q (.exit 4) ⟨⟨[a0, .vs (ints w) w.length cap, a2, a3, a4, .sl 0 0 w.length 1 (some w.length), .sl 1 0 w.length 1 (some w.length), .int .i64 0, a8, a9, a10], lo, [some (.cells (ints (outT total w t0)) 3), R], []⟩, wr⟩) →
    W M (.loop b27_3) ⟨⟨[a0, .vs (ints w) w.length cap, a2, a3, a4, .sl 0 0 w.length 1 (some w.length), .sl 1 0 w.length 1 (some w.length), .int .i64 r, a8, a9, a10], lo, [some (.cells (ints (outT total w t)) 3), some (.cells (ints (restT total w t)) 3)], []⟩, wr⟩ Q
  | 0, t, hi, a9, a10, lo, wr, hQ => by
    obtain rfl : t = t0 := by omega
    refine W.loop ?_
    unfold b27_3
    repeat' first
      | apply W.seq
      | apply SQn
      | apply W.region
      | apply WO.nil
      | apply W.block
      | apply W.ret
      | apply W.exit
      | apply W.skip
      | apply SQr
      | apply SQe
      | apply BQn
      | apply BQr
      | apply BQe
      | (apply BQo; exact rfl)
      | apply LQe
      | apply LQr
      | (apply W.condT; exact rfl)
      | (apply W.condF; exact rfl)
      | (apply W.cond; exact rfl; all_goals intro _)
      | (apply WO.gtr; exact rfl; exact rfl; all_goals first | (intro _; exfalso; omega) | intro _)
      | (apply WO.add; exact rfl; exact rfl; omega)
      | (apply WO.sub; exact rfl; exact rfl; omega)
      | (apply WO.iav; exact rfl; exact rfl; omega)
      | (apply WO.ias; exact rfl; exact rfl; omega)
      | (apply WO.lda; exact rfl; exact fun _ => rfl; (first | omega | (simp only [List.length_set]; omega) | (simp; omega)); decide; exact rfl; case ia => infer_instance)
      | (apply WO.lsa; exact rfl; (first | exact rfl | assumption | exact at_new | (apply at_old; assumption) | (apply at_put; first | assumption | (simp only [put_length]; assumption))); exact fun _ => rfl; (first | omega | (simp only [List.length_set]; omega) | (simp; omega)); decide; exact rfl; case ia => infer_instance)
      | (apply WO.sta; exact rfl; exact rfl; (first | exact rfl | assumption | exact at_new | (apply at_old; assumption) | (apply at_put; first | assumption | (simp only [put_length]; assumption))); exact fun _ => rfl; (first | omega | (simp only [List.length_set]; omega) | (simp; omega)); exact ⟨rfl, by decide, rfl⟩; exact rfl; case ia => infer_instance)
      | (apply WO.hlv; exact rfl; exact rfl; exact rfl)
      | (apply WO.hpv; exact rfl; exact rfl; exact rfl)
      | (apply WO.hnv; exact rfl; exact rfl; exact rfl)
      | (apply WO.pl; exact rfl; exact rfl)
      | (apply WO.pp; exact rfl; exact rfl)
    · exact hQ _ _ _ _ _
  | r + 1, t, hi, a9, a10, lo, wr, hQ => by
    have hn := hw.2.2.2.2
    refine W.loop ?_
    unfold b27_3
    repeat' first
      | apply W.seq
      | apply SQn
      | apply W.region
      | apply WO.nil
      | apply W.block
      | apply W.ret
      | apply W.exit
      | apply W.skip
      | apply SQr
      | apply SQe
      | apply BQn
      | apply BQr
      | apply BQe
      | (apply BQo; exact rfl)
      | apply LQe
      | apply LQr
      | (apply W.condT; exact rfl)
      | (apply W.condF; exact rfl)
      | (apply W.cond; exact rfl; all_goals intro _)
      | (apply WO.gtr; exact rfl; exact rfl; all_goals first | (intro _; exfalso; omega) | intro _)
      | (apply WO.add; exact rfl; exact rfl; omega)
      | (apply WO.sub; exact rfl; exact rfl; omega)
      | (apply WO.iav; exact rfl; exact rfl; omega)
      | (apply WO.ias; exact rfl; exact rfl; omega)
      | (apply WO.lda; exact rfl; exact fun _ => rfl; (first | omega | (simp only [List.length_set]; omega) | (simp; omega)); decide; exact rfl; case ia => infer_instance)
      | (apply WO.lsa; exact rfl; (first | exact rfl | assumption | exact at_new | (apply at_old; assumption) | (apply at_put; first | assumption | (simp only [put_length]; assumption))); exact fun _ => rfl; (first | omega | (simp only [List.length_set]; omega) | (simp; omega)); decide; exact rfl; case ia => infer_instance)
      | (apply WO.sta; exact rfl; exact rfl; (first | exact rfl | assumption | exact at_new | (apply at_old; assumption) | (apply at_put; first | assumption | (simp only [put_length]; assumption))); exact fun _ => rfl; (first | omega | (simp only [List.length_set]; omega) | (simp; omega)); exact ⟨rfl, by decide, rfl⟩; exact rfl; case ia => infer_instance)
      | (apply WO.hlv; exact rfl; exact rfl; exact rfl)
      | (apply WO.hpv; exact rfl; exact rfl; exact rfl)
      | (apply WO.hnv; exact rfl; exact rfl; exact rfl)
      | (apply WO.pl; exact rfl; exact rfl)
      | (apply WO.pp; exact rfl; exact rfl)
    refine loop27_2 (restT total w t) w.length restT_length hn _ _ _ _ _ _ _ w rfl cap _ (w.length - 1) 1 0 (by omega) (by omega) (fun j h => by omega) (fun j h1 h2 => by omega) _ _ (fun b lo hb h1 h2 => ?_)
    have eb : ((b : Int)).toNat = b := by omega
    have bl : b < (restT total w t).length := by rw [restT_length]; exact hb
    have bo : ((b : Int)).toNat < (outT total w t).length := by rw [outT_length]; omega
    have br : ((b : Int)).toNat < (restT total w t).length := by omega
    have bd := outT_bound hw _ (getD_mem bo)
    have gb : ∀ j, j < w.length → (restT total w t)[j]? = some (restT total w t)[j]! := fun j hj => by
      rw [getElem!_pos _ j (by rw [restT_length]; exact hj)]; exact List.getElem?_eq_getElem (by rw [restT_length]; exact hj)
    have hrank := restT_best hw.sum.1 (show t < w.length by omega) (gb b hb) (fun i y hi hy => by
      have hil : i < w.length := by omega
      rw [gb i hil] at hy; cases hy; exact h1 i hi) (fun i y hi hy => by
      have hil : i < w.length := by have := (List.getElem?_eq_some_iff.1 hy).1; rwa [restT_length] at this
      rw [gb i hil] at hy; cases hy; exact h2 i hi hil)
    repeat' first
      | apply W.seq
      | apply SQn
      | apply W.region
      | apply WO.nil
      | apply W.block
      | apply W.ret
      | apply W.exit
      | apply W.skip
      | apply SQr
      | apply SQe
      | apply BQn
      | apply BQr
      | apply BQe
      | (apply BQo; exact rfl)
      | apply LQe
      | apply LQr
      | (apply W.condT; exact rfl)
      | (apply W.condF; exact rfl)
      | (apply W.cond; exact rfl; all_goals intro _)
      | (apply WO.gtr; exact rfl; exact rfl; all_goals first | (intro _; exfalso; omega) | intro _)
      | (apply WO.add; exact rfl; exact rfl; omega)
      | (apply WO.sub; exact rfl; exact rfl; omega)
      | (apply WO.iav; exact rfl; exact rfl; omega)
      | (apply WO.ias; exact rfl; exact rfl; omega)
      | (apply WO.lda; exact rfl; exact fun _ => rfl; (first | omega | (simp only [List.length_set]; omega) | (simp; omega)); decide; exact rfl; case ia => infer_instance)
      | (apply WO.lsa; exact rfl; (first | exact rfl | assumption | exact at_new | (apply at_old; assumption) | (apply at_put; first | assumption | (simp only [put_length]; assumption))); exact fun _ => rfl; (first | omega | (simp only [List.length_set]; omega) | (simp; omega)); decide; exact rfl; case ia => infer_instance)
      | (apply WO.sta; exact rfl; exact rfl; (first | exact rfl | assumption | exact at_new | (apply at_old; assumption) | (apply at_put; first | assumption | (simp only [put_length]; assumption))); exact fun _ => rfl; (first | omega | (simp only [List.length_set]; omega) | (simp; omega)); exact ⟨rfl, by decide, rfl⟩; exact rfl; case ia => infer_instance)
      | (apply WO.hlv; exact rfl; exact rfl; exact rfl)
      | (apply WO.hpv; exact rfl; exact rfl; exact rfl)
      | (apply WO.hnv; exact rfl; exact rfl; exact rfl)
      | (apply WO.pl; exact rfl; exact rfl)
      | (apply WO.pp; exact rfl; exact rfl)
    refine LQn ?_
    have e1 : (outT total w t).set ((b : Int)).toNat ((outT total w t)[((b : Int)).toNat]! + 1) = outT total w (t + 1) := by
      rw [eb]
      refine outT_next hb ?_ hrank
      rw [getElem!_pos _ b (by rw [outT_length]; exact hb)]; exact List.getElem?_eq_getElem (by rw [outT_length]; exact hb)
    have e2 : (restT total w t).set ((b : Int)).toNat (-1) = restT total w (t + 1) := by
      rw [eb]; exact restT_next hb hrank
    rw [e1, e2, show ((r + 1 : Nat) : Int) - 1 = (r : Int) by omega]
    exact loop27_3 hw t0 ht0 cap a0 a2 a3 a4 a8 r (t + 1) (by omega) _ _ _ _ hQ

theorem start27_1 {total : Int} {w : List Int} (hw : wOK total w) (cap : Option Nat) (a2 a4 a9 a10 : AV) {Q : Ex → StW → Prop} (hQ : ∀ lo wr, Q (.exit 2) ⟨⟨[.int .i64 total, .vs (ints w) w.length cap, a2, .int .i64 (Sort.sum w), a4, .sl 0 0 w.length 1 (some w.length), .sl 1 0 w.length 1 (some w.length), .int .i64 (remain total w), .int .i64 w.length, a9, a10], lo, [some (.cells (ints (base total w)) 3), some (.cells (ints (rems total w)) 3)], []⟩, wr⟩) (lo : List (Nat × AV)) (wr : List Nat) :
    W M (.loop b27_1) ⟨⟨[.int .i64 total, .vs (ints w) w.length cap, a2, .int .i64 (Sort.sum w), a4, .sl 0 0 w.length 1 (some w.length), .sl 1 0 w.length 1 (some w.length), .int .i64 total, .int .i64 0, a9, a10], lo, [some (.cells (ints (List.replicate w.length 0)) 3), some (.cells (ints (List.replicate w.length 0)) 3)], []⟩, wr⟩ Q := by
  have h := loop27_1 (M := M) hw cap a2 a4 a9 a10 hQ w.length 0 (by omega) (List.replicate w.length 0) (List.replicate w.length 0) lo wr (by simp) (by simp) (by simp) (by simp)
  rw [List.take_zero, show total - Sort.sum ([] : List Int) = total by simp [Sort.sum]] at h
  exact h

theorem w27 (hft : M.FT = FT) {total : Int} {w : List Int} (hw : wOK total w) (cap : Option Nat) : ∃ R, Run M 27 [.int .i64 total, .vs (ints w) w.length cap] [] ⟨.sl 0 0 w.length 1 (some w.length), [some (.cells (ints (share total w)) 3), R], []⟩ := by
  have hn := hw.2.2.2.2
  obtain ⟨l0, l1⟩ := left_bounds (total := total) hw.sum.1
  obtain ⟨⟨n, e, s, g1, R, g2, g3, g4, g5⟩⟩ : W M b27 ⟨⟨[0, 1, 4, 5, 6, 7, 8, 9, 10, 11, 12].map (fun t => ([AV.int .i64 total, .vs (ints w) w.length cap][t]?).getD undefA), [], [], []⟩, []⟩ fun e s => ∃ R, (e = .normal ∨ e = .ret) ∧ s.s.dfs = [] ∧ s.s.pe[2]? = some (.sl 0 0 w.length 1 (some w.length)) ∧ s.s.hp = [some (.cells (ints (share total w)) 3), R] := by
    unfold b27
    simp only [List.map_cons, List.map_nil, List.getElem?_cons_zero, List.getElem?_cons_succ, List.getElem?_nil, Option.getD_some, Option.getD_none]
    repeat' first
      | apply W.seq
      | apply SQn
      | apply W.region
      | apply WO.nil
      | apply W.block
      | apply W.ret
      | apply W.exit
      | apply W.skip
      | apply SQr
      | apply SQe
      | apply BQn
      | apply BQr
      | apply BQe
      | (apply BQo; exact rfl)
      | apply LQe
      | apply LQr
      | (apply W.drawro; exact rfl)
      | apply W.draw
      | apply WD.nil
      | (apply WD.gT; exact rfl)
      | (apply WD.gF; exact rfl)
      | (apply WD.sT; exact rfl)
      | (apply WD.sF; exact rfl)
      | (apply WD.sU; exact rfl)
      | (apply WD.pure1; exact rfl)
      | (apply WD.new1; exact rfl)
      | (apply W.condT; exact rfl)
      | (apply W.condF; exact rfl)
      | (apply W.cond; exact rfl; all_goals intro _)
      | (apply WO.mki; exact rfl; exact rfl; omega)
      | (apply WO.mkb; exact rfl; exact rfl; omega)
      | (apply WO.hlv; exact rfl; exact rfl; exact rfl)
      | (apply WO.hpv; exact rfl; exact rfl; exact rfl)
      | (apply WO.hnv; exact rfl; exact rfl; exact rfl)
      | (apply WO.pl; exact rfl; exact rfl)
      | (apply WO.pp; exact rfl; exact rfl)
    refine loop27_0 w cap hw.2.2.1 hn _ _ _ _ _ _ _ _ (fun lo wr => ?_) w.length 0 (by omega) _ _
    repeat' first
      | apply W.seq
      | apply SQn
      | apply W.region
      | apply WO.nil
      | apply W.block
      | apply W.ret
      | apply W.exit
      | apply W.skip
      | apply SQr
      | apply SQe
      | apply BQn
      | apply BQr
      | apply BQe
      | (apply BQo; exact rfl)
      | apply LQe
      | apply LQr
      | (apply W.drawro; exact rfl)
      | apply W.draw
      | apply WD.nil
      | (apply WD.gT; exact rfl)
      | (apply WD.gF; exact rfl)
      | (apply WD.sT; exact rfl)
      | (apply WD.sF; exact rfl)
      | (apply WD.sU; exact rfl)
      | (apply WD.pure1; exact rfl)
      | (apply WD.new1; exact rfl)
      | (apply W.condT; exact rfl)
      | (apply W.condF; exact rfl)
      | (apply W.cond; exact rfl; all_goals intro _)
      | (apply WO.mki; exact rfl; exact rfl; omega)
      | (apply WO.mkb; exact rfl; exact rfl; omega)
      | (apply WO.hlv; exact rfl; exact rfl; exact rfl)
      | (apply WO.hpv; exact rfl; exact rfl; exact rfl)
      | (apply WO.hnv; exact rfl; exact rfl; exact rfl)
      | (apply WO.pl; exact rfl; exact rfl)
      | (apply WO.pp; exact rfl; exact rfl)
    refine start27_1 hw cap _ _ _ _ (fun lo wr => ?_) _ _
    repeat' first
      | apply W.seq
      | apply SQn
      | apply W.region
      | apply WO.nil
      | apply W.block
      | apply W.ret
      | apply W.exit
      | apply W.skip
      | apply SQr
      | apply SQe
      | apply BQn
      | apply BQr
      | apply BQe
      | (apply BQo; exact rfl)
      | apply LQe
      | apply LQr
      | (apply W.drawro; exact rfl)
      | apply W.draw
      | apply WD.nil
      | (apply WD.gT; exact rfl)
      | (apply WD.gF; exact rfl)
      | (apply WD.sT; exact rfl)
      | (apply WD.sF; exact rfl)
      | (apply WD.sU; exact rfl)
      | (apply WD.pure1; exact rfl)
      | (apply WD.new1; exact rfl)
      | (apply W.condT; exact rfl)
      | (apply W.condF; exact rfl)
      | (apply W.cond; exact rfl; all_goals intro _)
      | (apply WO.mki; exact rfl; exact rfl; omega)
      | (apply WO.mkb; exact rfl; exact rfl; omega)
      | (apply WO.hlv; exact rfl; exact rfl; exact rfl)
      | (apply WO.hpv; exact rfl; exact rfl; exact rfl)
      | (apply WO.hnv; exact rfl; exact rfl; exact rfl)
      | (apply WO.pl; exact rfl; exact rfl)
      | (apply WO.pp; exact rfl; exact rfl)
    rw [show remain total w = ((remain total w).toNat : Int) by omega, ← outT_zero, show rems total w = restT total w 0 from restT_zero.symm]
    refine loop27_3 hw (remain total w).toNat (by omega) cap _ _ _ _ _ (remain total w).toNat 0 (by omega) _ _ _ _ (fun a9 a10 lo wr R => ?_)
    rw [share_out l0]
    repeat' first
      | apply W.seq
      | apply SQn
      | apply W.region
      | apply WO.nil
      | apply W.block
      | apply W.ret
      | apply W.exit
      | apply W.skip
      | apply SQr
      | apply SQe
      | apply BQn
      | apply BQr
      | apply BQe
      | (apply BQo; exact rfl)
      | apply LQe
      | apply LQr
      | (apply W.drawro; exact rfl)
      | apply W.draw
      | apply WD.nil
      | (apply WD.gT; exact rfl)
      | (apply WD.gF; exact rfl)
      | (apply WD.sT; exact rfl)
      | (apply WD.sF; exact rfl)
      | (apply WD.sU; exact rfl)
      | (apply WD.pure1; exact rfl)
      | (apply WD.new1; exact rfl)
      | (apply W.condT; exact rfl)
      | (apply W.condF; exact rfl)
      | (apply W.cond; exact rfl; all_goals intro _)
      | (apply WO.mki; exact rfl; exact rfl; omega)
      | (apply WO.mkb; exact rfl; exact rfl; omega)
      | (apply WO.hlv; exact rfl; exact rfl; exact rfl)
      | (apply WO.hpv; exact rfl; exact rfl; exact rfl)
      | (apply WO.hnv; exact rfl; exact rfl; exact rfl)
      | (apply WO.pl; exact rfl; exact rfl)
      | (apply WO.pp; exact rfl; exact rfl)
    exact ⟨R, .inr rfl, rfl, rfl, rfl⟩
  exact ⟨R, run_of_W (by rw [hft]; exact ft27) (by simp) ⟨⟨n, e, s, g1, g2, g3, [.sl 0 0 w.length 1 (some w.length)], by simp only [resultsA, St.opd, g4], rfl, by rw [g5]; rfl⟩⟩⟩
end Go.Ab.Ch1

/-
  Own work: stadionlaw01.MarkDraws answers true.
-/
namespace Go.Ab.Ch1
open Go.Ab.Sort
variable {M : Mach}

/-- What MarkDraws calls. -/
structure Calls3 (M : Mach) : Prop where
  c18 : ∀ h, M.ext 18 [] h = some ⟨.bool true, h, []⟩
  c19 : ∀ (key : Int) (n : Nat) h, 1 ≤ key → key ≤ 2147483646 → n ≤ 256 → M.ext 19 [.int .i64 key, .int .i64 n] h = some ⟨.tup [.sl h.length 0 n 1 (some n), .int .i64 0], h ++ [some (.cells (ints (shuf (n - 1) key (upto n))) 3)], []⟩
  c19e : ∀ (key n : Int) h, (key < 1 ∨ 2147483646 < key ∨ n < 0 ∨ 256 < n) → M.ext 19 [.int .i64 key, .int .i64 n] h = some ⟨.tup [.nilsl, .int .i64 3], h, []⟩
  c20 : ∀ (key n : Int) h, M.ext 20 [.int .i64 key, .int .i64 n] h = some ⟨.int .i64 (if key < 1 ∨ 2147483646 < key ∨ n < 0 ∨ 256 < n then 3 else 0), h, []⟩
  c21 : ∀ x y l m (e bad : Int) h, intsAt h x = some l → intsAt h y = some m → l.length < 4611686018427387904 → M.ext 21 [x, .int .i64 e, .int .i64 bad, y] h = some ⟨.bool (if bad ≠ 0 then decide (l.length = 0 ∧ e = bad) else decide (e = 0 ∧ l = m)), h, []⟩
  c22 : ∀ (key : Int) (n : Nat) h, 1 ≤ key → key ≤ 2147483646 → n ≤ 256 → M.ext 22 [.int .i64 key, .int .i64 n] h = some ⟨.sl h.length 0 n 1 (some n), h ++ [some (.cells (ints (shuf (n - 1) key (upto n))) 3)], []⟩
  c23 : ∀ (total : Int) (w : List Int) x h, intsAt h x = some w → sharesE total w = 0 → M.ext 23 [.int .i64 total, x] h = some ⟨.tup [.sl h.length 0 w.length 1 none, .int .i64 0], h ++ [some (.cells (ints (share total w)) 3)], []⟩
  c23e : ∀ (total : Int) (w : List Int) x h, intsAt h x = some w → w.length < 4611686018427387904 → sharesE total w ≠ 0 → M.ext 23 [.int .i64 total, x] h = some ⟨.tup [.nilsl, .int .i64 (sharesE total w)], h, []⟩
  c24 : ∀ x l h, intsAt h x = some l → l.length < 4611686018427387904 → M.ext 24 [x] h = some ⟨.int .i64 (firstNZ l), h, []⟩
  c25 : ∀ b e h, M.ext 25 [.bool b, .int .i64 e] h = some ⟨.int .i64 (if b then e else 0), h, []⟩
  c26 : ∀ (w : List Int) x h, intsAt h x = some w → M.ext 26 [x] h = some ⟨.int .i64 (checkW w), h, []⟩
  c27 : ∀ (total : Int) (w : List Int) x h, intsAt h x = some w → sharesE total w = 0 → M.ext 27 [.int .i64 total, x] h = some ⟨.sl h.length 0 w.length 1 (some w.length), h ++ [some (.cells (ints (share total w)) 3)], []⟩

theorem intsAt_sl' {h : Heap} {b n : Nat} {cap : Option Nat} {l : List Int} {e : TypeId} (hb : h.at b = some (.cells (ints l) e)) (hl : l.length = n) : intsAt h (.sl b 0 n 1 cap) = some l := by
  subst hl
  have e1 : cut (ints l) 0 (l.length * 1) = some (ints l) := by
    rw [Nat.mul_one, ← ints_len l]; simp [cut]
  simp only [intsAt, cellsAt, hb, e1, Option.map_some, decInts_ints]
  simp
theorem intsAt_nil {h : Heap} : intsAt h .nilsl = some [] := rfl

def t3 : ICode :=
 .seq (.region [⟨(.l 58), .mv (.p 0), none⟩,
         ⟨(.l 59), .mv (.p 1), none⟩,
         ⟨(.l 60), .call (.c (.fn (.func 23) [] [])) [(.l 58), (.l 59)], none⟩,
         ⟨(.l 57), .mv (.l 60), none⟩,
         ⟨(.l 61), .extract 0 (.l 57), none⟩,
         ⟨(.l 62), .extract 1 (.l 57), none⟩,
         ⟨(.p 8), .mv (.l 61), none⟩,
         ⟨(.p 9), .mv (.l 62), none⟩])
       (.seq (.region [⟨(.l 63), .mv (.p 0), none⟩,
          ⟨(.l 64), .bin .lss (.l 63) (.c (.int .i64 (0))), none⟩,
          ⟨(.l 65), .mv (.l 64), none⟩,
          ⟨(.l 66), .mv (.p 0), some ((.l 65), false)⟩,
          ⟨(.l 67), .bin .gtr (.l 66) (.c (.int .i64 (999999999))), some ((.l 65), false)⟩,
          ⟨(.l 68), .pick (.l 65) (.c (.bool true)) (.l 67), none⟩,
          ⟨(.l 69), .call (.c (.fn (.func 25) [] [])) [(.l 68), (.c (.int .i64 (3)))], none⟩,
          ⟨(.l 70), .mv (.p 1), none⟩,
          ⟨(.l 71), .call (.c (.fn (.func 26) [] [])) [(.l 70)], none⟩,
          ⟨(.l 72), .bslice 3 2 1 [.int .i64 (0)] [(0, 1, (.l 69)), (1, 1, (.l 71))], none⟩,
          ⟨(.l 73), .call (.c (.fn (.func 24) [] [])) [(.l 72)], none⟩,
          ⟨(.p 7), .mv (.l 73), none⟩])
        (.seq (.seq (.region [⟨(.l 74), .mv (.p 7), none⟩,
            ⟨(.l 75), .bin .neq (.l 74) (.c (.int .i64 (0))), none⟩])
          (.cond (.l 75)
           (.seq (.region [⟨(.l 76), .mv (.p 8), none⟩,
              ⟨(.l 77), .mv (.p 9), none⟩,
              ⟨(.l 78), .mv (.p 7), none⟩,
              ⟨(.l 79), .call (.c (.fn (.func 21) [] [])) [(.l 76), (.l 77), (.l 78), (.c (.nilsl))], none⟩,
              ⟨(.p 4), .mv (.l 79), none⟩])
            (.ret))
           (.skip)))
         (.seq (.region [⟨(.l 80), .mv (.p 1), none⟩,
            ⟨(.l 81), .len .sl (.l 80), none⟩,
            ⟨(.l 82), .bin .gtr (.l 81) (.c (.int .i64 (40))), none⟩,
            ⟨(.l 83), .mv (.l 82), none⟩,
            ⟨(.l 84), .mv (.p 8), some ((.l 83), false)⟩,
            ⟨(.l 85), .mv (.p 9), some ((.l 83), false)⟩,
            ⟨(.l 86), .mv (.p 0), some ((.l 83), false)⟩,
            ⟨(.l 87), .mv (.p 1), some ((.l 83), false)⟩,
            ⟨(.l 88), .call (.c (.fn (.func 27) [] [])) [(.l 86), (.l 87)], some ((.l 83), false)⟩,
            ⟨(.l 89), .call (.c (.fn (.func 21) [] [])) [(.l 84), (.l 85), (.c (.int .i64 (0))), (.l 88)], some ((.l 83), false)⟩,
            ⟨(.l 90), .pick (.l 83) (.c (.bool true)) (.l 89), none⟩,
            ⟨(.p 4), .mv (.l 90), none⟩])
          (.ret))))

set_option maxHeartbeats 2000000 in
theorem w3 (hft : M.FT = FT) (C : Calls3 M) (total : Int) (w : List Int) (cap : Option Nat) (d0 d1 : Int) : Run M 3 [.int .i64 total, .vs (ints w) w.length cap, .agg [.int .i64 d0, .int .i64 d1]] [] ⟨.bool true, [], []⟩ := by
  have hEnd : ∀ s : StW, s.s.dfs = [] → s.s.pe[4]? = some (.bool true) → ((fun (e : Ex) (s : StW) => (e = .normal ∨ e = .ret) ∧ s.s.dfs = [] ∧ ∃ vs, resultsA s.s [.var (.p 4)] = some vs ∧ tupA vs = .bool true ∧ (if (AV.bool true).top ≤ 0 then [] else s.s.hp) = []) Ex.ret s) := fun s h1 h2 =>
    ⟨.inr rfl, h1, [.bool true], by simp only [resultsA, St.opd, h2], rfl, rfl⟩
  have hW : ∀ h, intsAt h (.vs (ints w) w.length cap) = some w := fun h => intsAt_vs
  refine run_of_W (by rw [hft]; exact ft3) (by simp) ?_
  by_cases hlen : 260 < w.length
  · unfold b3
    simp only [List.map_cons, List.map_nil, List.getElem?_cons_zero, List.getElem?_cons_succ, List.getElem?_nil, Option.getD_some, Option.getD_none]
    repeat' first
      | apply W.seq
      | apply SQn
      | apply W.region
      | apply WO.nil
      | apply W.block
      | apply W.ret
      | apply W.exit
      | apply W.skip
      | apply SQr
      | apply SQe
      | apply BQn
      | apply BQr
      | apply BQe
      | (apply BQo; exact rfl)
      | apply LQe
      | apply LQr
      | (apply W.condT; exact rfl)
      | (apply W.condF; exact rfl)
      | (apply W.cond; exact rfl; all_goals intro _)
      | (apply WO.gT; exact rfl)
      | (apply WO.gF; exact rfl)
      | (apply WO.sT; exact rfl)
      | (apply WO.sF; exact rfl)
      | (apply WO.sU; exact rfl)
      | (apply WO.lss; exact rfl; exact rfl; all_goals first | (intro _; exfalso; omega) | intro _)
      | (apply WO.gtr; exact rfl; exact rfl; all_goals first | (intro _; exfalso; omega) | intro _)
      | (apply WO.eql; exact rfl; exact rfl; all_goals first | (intro _; exfalso; omega) | intro _)
      | (apply WO.neq; exact rfl; exact rfl; all_goals first | (intro _; exfalso; omega) | intro _)
      | (apply WO.pkT; exact rfl; exact rfl)
      | (apply WO.pkF; exact rfl; exact rfl)
      | (apply WO.cll; exact rfl; exact rfl; first | exact C.c18 _)
      | (apply WO.iav; exact rfl; exact rfl; omega)
      | (apply WO.ias; exact rfl; exact rfl; omega)
      | (apply WO.lda; exact rfl; exact fun _ => rfl; (first | omega | (simp only [List.length_set]; omega) | (simp; omega)); decide; exact rfl; case ia => infer_instance)
      | (apply WO.lsa; exact rfl; (first | exact rfl | assumption | exact at_new | (apply at_old; assumption) | (apply at_put; first | assumption | (simp only [put_length]; assumption))); exact fun _ => rfl; (first | omega | (simp only [List.length_set]; omega) | (simp; omega)); decide; exact rfl; case ia => infer_instance)
      | (apply WO.seql; exact rfl; exact rfl; all_goals first | (intro h; exact absurd h (by decide)) | (intro h; exact absurd rfl h) | (intro h; contradiction) | intro _)
      | (apply WO.sneq; exact rfl; exact rfl; all_goals first | (intro h; exact absurd h (by decide)) | (intro h; exact absurd rfl h) | (intro h; contradiction) | intro _)
      | (apply WO.clb; exact rfl; exact rfl; exact rfl; all_goals first | (intro h; exact absurd h (by decide)) | intro _)
      | (apply WO.cll; exact rfl; exact rfl; exact rfl)
      | (apply WO.hlv; exact rfl; exact rfl; exact rfl)
      | (apply WO.hpv; exact rfl; exact rfl; exact rfl)
      | (apply WO.hnv; exact rfl; exact rfl; exact rfl)
      | (apply WO.pl; exact rfl; exact rfl)
      | (apply WO.pp; exact rfl; exact rfl)
    exact hEnd _ rfl rfl
  have q26 : ∀ h, M.ext 26 [.vs (ints w) w.length cap] h = some ⟨.int .i64 (checkW w), h, []⟩ := fun h => C.c26 w _ h (hW h)
  have q25 : ∀ h, M.ext 25 [.bool true, .int .i64 3] h = some ⟨.int .i64 3, h, []⟩ := fun h => C.c25 true 3 h
  have q25' : ∀ h, M.ext 25 [.bool false, .int .i64 3] h = some ⟨.int .i64 0, h, []⟩ := fun h => C.c25 false 3 h
  have q24 : ∀ h x, intsAt h x = some [3, checkW w] → M.ext 24 [x] h = some ⟨.int .i64 3, h, []⟩ := fun h x hx => by rw [C.c24 x _ h hx (by simp)]; rfl
  have q24' : ∀ h x, intsAt h x = some [0, checkW w] → M.ext 24 [x] h = some ⟨.int .i64 (checkW w), h, []⟩ := fun h x hx => by
    rw [C.c24 x _ h hx (by simp)]; simp only [firstNZ, if_true]; congr 3; split <;> simp_all
  have bad21 : ∀ (e : Int) h, e ≠ 0 → M.ext 21 [.nilsl, .int .i64 e, .int .i64 e, .nilsl] h = some ⟨.bool true, h, []⟩ := fun e h he => by
    rw [C.c21 _ _ [] [] e e h rfl rfl (by simp), if_pos he]; simp
  have ok21 : ∀ x y l h, l.length < 4611686018427387904 → intsAt h x = some l → intsAt h y = some l → M.ext 21 [x, .int .i64 0, .int .i64 0, y] h = some ⟨.bool true, h, []⟩ := fun x y l h hl hx hy => by
    rw [C.c21 x y l l 0 0 h hx hy hl]; simp
  have q20 := C.c20 d0 d1
  have hshare : (share total w).length = w.length := by simp [share, numsTo_length]
  -- the rest behind the drawn order, on whatever heap
  have rest : ∀ (a2 a3 a5 a6 a7 a8 a9 : AV) (lo : List (Nat × AV)) (h : Heap) (wr : List Nat), W M t3 ⟨⟨[.int .i64 total, .vs (ints w) w.length cap, a2, a3, .bool false, a5, a6, a7, a8, a9], lo, h, []⟩, wr⟩ fun e s => (e = .normal ∨ e = .ret) ∧ s.s.dfs = [] ∧ ∃ vs, resultsA s.s [.var (.p 4)] = some vs ∧ tupA vs = .bool true ∧ (if (AV.bool true).top ≤ 0 then [] else s.s.hp) = [] := by
    intro a2 a3 a5 a6 a7 a8 a9 lo h wr
    by_cases hE : sharesE total w = 0
    · have hok := sharesE_ok hE
      have ht : ¬ (total < 0 ∨ 999999999 < total) := by unfold sharesE at hE; split at hE <;> omega
      have hc0 : checkW w = 0 := by unfold sharesE at hE; rwa [if_neg ht] at hE
      rw [hc0] at q26 q24'
      have q23 : ∀ h, M.ext 23 [.int .i64 total, .vs (ints w) w.length cap] h = some ⟨.tup [.sl h.length 0 w.length 1 none, .int .i64 0], h ++ [some (.cells (ints (share total w)) 3)], []⟩ := fun h => C.c23 total w _ h (hW h) hE
      have q27 : ∀ h, M.ext 27 [.int .i64 total, .vs (ints w) w.length cap] h = some ⟨.sl h.length 0 w.length 1 (some w.length), h ++ [some (.cells (ints (share total w)) 3)], []⟩ := fun h => C.c27 total w _ h (hW h) hE
      have okS : ∀ (h H : Heap), M.ext 21 [.sl h.length 0 w.length 1 none, .int .i64 0, .int .i64 0, .sl (h ++ [some (Blk.cells (ints (share total w)) 3)] ++ H).length 0 w.length 1 (some w.length)] (h ++ [some (Blk.cells (ints (share total w)) 3)] ++ H ++ [some (Blk.cells (ints (share total w)) 3)]) = some ⟨.bool true, h ++ [some (Blk.cells (ints (share total w)) 3)] ++ H ++ [some (Blk.cells (ints (share total w)) 3)], []⟩ := fun h H =>
        ok21 _ _ (share total w) _ (by omega) (intsAt_sl' (at_old (at_old at_new)) hshare) (intsAt_sl' at_new hshare)
      have z24 : ∀ (h : Heap), M.ext 24 [.sl h.length 0 2 1 (some 2)] (h ++ [some (Blk.cells [.int .i64 0, .int .i64 0] 3)]) = some ⟨.int .i64 0, h ++ [some (Blk.cells [.int .i64 0, .int .i64 0] 3)], []⟩ := fun h => q24' _ _ (intsAt_sl' (l := [0, 0]) at_new rfl)
      unfold t3
      by_cases h40 : 40 < w.length
      · repeat' first
          | apply W.seq
          | apply SQn
          | apply W.region
          | apply WO.nil
          | apply W.block
          | apply W.ret
          | apply W.exit
          | apply W.skip
          | apply SQr
          | apply SQe
          | apply BQn
          | apply BQr
          | apply BQe
          | (apply BQo; exact rfl)
          | apply LQe
          | apply LQr
          | (apply W.condT; exact rfl)
          | (apply W.condF; exact rfl)
          | (apply W.cond; exact rfl; all_goals intro _)
          | (apply WO.gT; exact rfl)
          | (apply WO.gF; exact rfl)
          | (apply WO.sT; exact rfl)
          | (apply WO.sF; exact rfl)
          | (apply WO.sU; exact rfl)
          | (apply WO.lss; exact rfl; exact rfl; all_goals first | (intro _; exfalso; omega) | intro _)
          | (apply WO.gtr; exact rfl; exact rfl; all_goals first | (intro _; exfalso; omega) | intro _)
          | (apply WO.eql; exact rfl; exact rfl; all_goals first | (intro _; exfalso; omega) | intro _)
          | (apply WO.neq; exact rfl; exact rfl; all_goals first | (intro _; exfalso; omega) | intro _)
          | (apply WO.pkT; exact rfl; exact rfl)
          | (apply WO.pkF; exact rfl; exact rfl)
          | (apply WO.cll; exact rfl; exact rfl; first | exact q23 _ | exact q25' _ | exact q26 _ | exact z24 _)
          | (apply WO.iav; exact rfl; exact rfl; omega)
          | (apply WO.ias; exact rfl; exact rfl; omega)
          | (apply WO.lda; exact rfl; exact fun _ => rfl; (first | omega | (simp only [List.length_set]; omega) | (simp; omega)); decide; exact rfl; case ia => infer_instance)
          | (apply WO.lsa; exact rfl; (first | exact rfl | assumption | exact at_new | (apply at_old; assumption) | (apply at_put; first | assumption | (simp only [put_length]; assumption))); exact fun _ => rfl; (first | omega | (simp only [List.length_set]; omega) | (simp; omega)); decide; exact rfl; case ia => infer_instance)
          | (apply WO.seql; exact rfl; exact rfl; all_goals first | (intro h; exact absurd h (by decide)) | (intro h; exact absurd rfl h) | (intro h; contradiction) | intro _)
          | (apply WO.sneq; exact rfl; exact rfl; all_goals first | (intro h; exact absurd h (by decide)) | (intro h; exact absurd rfl h) | (intro h; contradiction) | intro _)
          | (apply WO.clb; exact rfl; exact rfl; exact rfl; all_goals first | (intro h; exact absurd h (by decide)) | intro _)
          | (apply WO.cll; exact rfl; exact rfl; exact rfl)
          | (apply WO.hlv; exact rfl; exact rfl; exact rfl)
          | (apply WO.hpv; exact rfl; exact rfl; exact rfl)
          | (apply WO.hnv; exact rfl; exact rfl; exact rfl)
          | (apply WO.pl; exact rfl; exact rfl)
          | (apply WO.pp; exact rfl; exact rfl)
        exact hEnd _ rfl rfl
      · repeat' first
          | apply W.seq
          | apply SQn
          | apply W.region
          | apply WO.nil
          | apply W.block
          | apply W.ret
          | apply W.exit
          | apply W.skip
          | apply SQr
          | apply SQe
          | apply BQn
          | apply BQr
          | apply BQe
          | (apply BQo; exact rfl)
          | apply LQe
          | apply LQr
          | (apply W.condT; exact rfl)
          | (apply W.condF; exact rfl)
          | (apply W.cond; exact rfl; all_goals intro _)
          | (apply WO.gT; exact rfl)
          | (apply WO.gF; exact rfl)
          | (apply WO.sT; exact rfl)
          | (apply WO.sF; exact rfl)
          | (apply WO.sU; exact rfl)
          | (apply WO.lss; exact rfl; exact rfl; all_goals first | (intro _; exfalso; omega) | intro _)
          | (apply WO.gtr; exact rfl; exact rfl; all_goals first | (intro _; exfalso; omega) | intro _)
          | (apply WO.eql; exact rfl; exact rfl; all_goals first | (intro _; exfalso; omega) | intro _)
          | (apply WO.neq; exact rfl; exact rfl; all_goals first | (intro _; exfalso; omega) | intro _)
          | (apply WO.pkT; exact rfl; exact rfl)
          | (apply WO.pkF; exact rfl; exact rfl)
          | (apply WO.cll; exact rfl; exact rfl; first | exact q23 _ | exact q25' _ | exact q26 _ | exact z24 _ | exact q27 _ | exact okS _ _)
          | (apply WO.iav; exact rfl; exact rfl; omega)
          | (apply WO.ias; exact rfl; exact rfl; omega)
          | (apply WO.lda; exact rfl; exact fun _ => rfl; (first | omega | (simp only [List.length_set]; omega) | (simp; omega)); decide; exact rfl; case ia => infer_instance)
          | (apply WO.lsa; exact rfl; (first | exact rfl | assumption | exact at_new | (apply at_old; assumption) | (apply at_put; first | assumption | (simp only [put_length]; assumption))); exact fun _ => rfl; (first | omega | (simp only [List.length_set]; omega) | (simp; omega)); decide; exact rfl; case ia => infer_instance)
          | (apply WO.seql; exact rfl; exact rfl; all_goals first | (intro h; exact absurd h (by decide)) | (intro h; exact absurd rfl h) | (intro h; contradiction) | intro _)
          | (apply WO.sneq; exact rfl; exact rfl; all_goals first | (intro h; exact absurd h (by decide)) | (intro h; exact absurd rfl h) | (intro h; contradiction) | intro _)
          | (apply WO.clb; exact rfl; exact rfl; exact rfl; all_goals first | (intro h; exact absurd h (by decide)) | intro _)
          | (apply WO.cll; exact rfl; exact rfl; exact rfl)
          | (apply WO.hlv; exact rfl; exact rfl; exact rfl)
          | (apply WO.hpv; exact rfl; exact rfl; exact rfl)
          | (apply WO.hnv; exact rfl; exact rfl; exact rfl)
          | (apply WO.pl; exact rfl; exact rfl)
          | (apply WO.pp; exact rfl; exact rfl)
        exact hEnd _ rfl rfl
    · have q23 : ∀ h, M.ext 23 [.int .i64 total, .vs (ints w) w.length cap] h = some ⟨.tup [.nilsl, .int .i64 (sharesE total w)], h, []⟩ := fun h => C.c23e total w _ h (hW h) (by omega) hE
      have q21 := fun h => bad21 _ h hE
      by_cases ht : total < 0 ∨ 999999999 < total
      · have e3 : sharesE total w = 3 := by unfold sharesE; rw [if_pos ht]
        rw [e3] at q23 q21
        have z24 : ∀ (h : Heap), M.ext 24 [.sl h.length 0 2 1 (some 2)] (h ++ [some (Blk.cells [.int .i64 3, .int .i64 (checkW w)] 3)]) = some ⟨.int .i64 3, h ++ [some (Blk.cells [.int .i64 3, .int .i64 (checkW w)] 3)], []⟩ := fun h => q24 _ _ (intsAt_sl' (l := [3, checkW w]) at_new rfl)
        generalize checkW w = c at *
        unfold t3
        rcases ht with ht | ht
        · repeat' first
            | apply W.seq
            | apply SQn
            | apply W.region
            | apply WO.nil
            | apply W.block
            | apply W.ret
            | apply W.exit
            | apply W.skip
            | apply SQr
            | apply SQe
            | apply BQn
            | apply BQr
            | apply BQe
            | (apply BQo; exact rfl)
            | apply LQe
            | apply LQr
            | (apply W.condT; exact rfl)
            | (apply W.condF; exact rfl)
            | (apply W.cond; exact rfl; all_goals intro _)
            | (apply WO.gT; exact rfl)
            | (apply WO.gF; exact rfl)
            | (apply WO.sT; exact rfl)
            | (apply WO.sF; exact rfl)
            | (apply WO.sU; exact rfl)
            | (apply WO.lss; exact rfl; exact rfl; all_goals first | (intro _; exfalso; omega) | intro _)
            | (apply WO.gtr; exact rfl; exact rfl; all_goals first | (intro _; exfalso; omega) | intro _)
            | (apply WO.eql; exact rfl; exact rfl; all_goals first | (intro _; exfalso; omega) | intro _)
            | (apply WO.neq; exact rfl; exact rfl; all_goals first | (intro _; exfalso; omega) | intro _)
            | (apply WO.pkT; exact rfl; exact rfl)
            | (apply WO.pkF; exact rfl; exact rfl)
            | (apply WO.cll; exact rfl; exact rfl; first | exact q23 _ | exact q25 _ | exact q26 _ | exact z24 _ | exact q21 _)
            | (apply WO.iav; exact rfl; exact rfl; omega)
            | (apply WO.ias; exact rfl; exact rfl; omega)
            | (apply WO.lda; exact rfl; exact fun _ => rfl; (first | omega | (simp only [List.length_set]; omega) | (simp; omega)); decide; exact rfl; case ia => infer_instance)
            | (apply WO.lsa; exact rfl; (first | exact rfl | assumption | exact at_new | (apply at_old; assumption) | (apply at_put; first | assumption | (simp only [put_length]; assumption))); exact fun _ => rfl; (first | omega | (simp only [List.length_set]; omega) | (simp; omega)); decide; exact rfl; case ia => infer_instance)
            | (apply WO.seql; exact rfl; exact rfl; all_goals first | (intro h; exact absurd h (by decide)) | (intro h; exact absurd rfl h) | (intro h; contradiction) | intro _)
            | (apply WO.sneq; exact rfl; exact rfl; all_goals first | (intro h; exact absurd h (by decide)) | (intro h; exact absurd rfl h) | (intro h; contradiction) | intro _)
            | (apply WO.clb; exact rfl; exact rfl; exact rfl; all_goals first | (intro h; exact absurd h (by decide)) | intro _)
            | (apply WO.cll; exact rfl; exact rfl; exact rfl)
            | (apply WO.hlv; exact rfl; exact rfl; exact rfl)
            | (apply WO.hpv; exact rfl; exact rfl; exact rfl)
            | (apply WO.hnv; exact rfl; exact rfl; exact rfl)
            | (apply WO.pl; exact rfl; exact rfl)
            | (apply WO.pp; exact rfl; exact rfl)
          exact hEnd _ rfl rfl
        · repeat' first
            | apply W.seq
            | apply SQn
            | apply W.region
            | apply WO.nil
            | apply W.block
            | apply W.ret
            | apply W.exit
            | apply W.skip
            | apply SQr
            | apply SQe
            | apply BQn
            | apply BQr
            | apply BQe
            | (apply BQo; exact rfl)
            | apply LQe
            | apply LQr
            | (apply W.condT; exact rfl)
            | (apply W.condF; exact rfl)
            | (apply W.cond; exact rfl; all_goals intro _)
            | (apply WO.gT; exact rfl)
            | (apply WO.gF; exact rfl)
            | (apply WO.sT; exact rfl)
            | (apply WO.sF; exact rfl)
            | (apply WO.sU; exact rfl)
            | (apply WO.lss; exact rfl; exact rfl; all_goals first | (intro _; exfalso; omega) | intro _)
            | (apply WO.gtr; exact rfl; exact rfl; all_goals first | (intro _; exfalso; omega) | intro _)
            | (apply WO.eql; exact rfl; exact rfl; all_goals first | (intro _; exfalso; omega) | intro _)
            | (apply WO.neq; exact rfl; exact rfl; all_goals first | (intro _; exfalso; omega) | intro _)
            | (apply WO.pkT; exact rfl; exact rfl)
            | (apply WO.pkF; exact rfl; exact rfl)
            | (apply WO.cll; exact rfl; exact rfl; first | exact q23 _ | exact q25 _ | exact q26 _ | exact z24 _ | exact q21 _)
            | (apply WO.iav; exact rfl; exact rfl; omega)
            | (apply WO.ias; exact rfl; exact rfl; omega)
            | (apply WO.lda; exact rfl; exact fun _ => rfl; (first | omega | (simp only [List.length_set]; omega) | (simp; omega)); decide; exact rfl; case ia => infer_instance)
            | (apply WO.lsa; exact rfl; (first | exact rfl | assumption | exact at_new | (apply at_old; assumption) | (apply at_put; first | assumption | (simp only [put_length]; assumption))); exact fun _ => rfl; (first | omega | (simp only [List.length_set]; omega) | (simp; omega)); decide; exact rfl; case ia => infer_instance)
            | (apply WO.seql; exact rfl; exact rfl; all_goals first | (intro h; exact absurd h (by decide)) | (intro h; exact absurd rfl h) | (intro h; contradiction) | intro _)
            | (apply WO.sneq; exact rfl; exact rfl; all_goals first | (intro h; exact absurd h (by decide)) | (intro h; exact absurd rfl h) | (intro h; contradiction) | intro _)
            | (apply WO.clb; exact rfl; exact rfl; exact rfl; all_goals first | (intro h; exact absurd h (by decide)) | intro _)
            | (apply WO.cll; exact rfl; exact rfl; exact rfl)
            | (apply WO.hlv; exact rfl; exact rfl; exact rfl)
            | (apply WO.hpv; exact rfl; exact rfl; exact rfl)
            | (apply WO.hnv; exact rfl; exact rfl; exact rfl)
            | (apply WO.pl; exact rfl; exact rfl)
            | (apply WO.pp; exact rfl; exact rfl)
          exact hEnd _ rfl rfl
      · have e3 : sharesE total w = checkW w := by unfold sharesE; rw [if_neg ht]
        rw [e3] at q23 q21 hE
        have z24 : ∀ (h : Heap), M.ext 24 [.sl h.length 0 2 1 (some 2)] (h ++ [some (Blk.cells [.int .i64 0, .int .i64 (checkW w)] 3)]) = some ⟨.int .i64 (checkW w), h ++ [some (Blk.cells [.int .i64 0, .int .i64 (checkW w)] 3)], []⟩ := fun h => q24' _ _ (intsAt_sl' (l := [0, checkW w]) at_new rfl)
        generalize checkW w = c at *
        unfold t3
        repeat' first
          | apply W.seq
          | apply SQn
          | apply W.region
          | apply WO.nil
          | apply W.block
          | apply W.ret
          | apply W.exit
          | apply W.skip
          | apply SQr
          | apply SQe
          | apply BQn
          | apply BQr
          | apply BQe
          | (apply BQo; exact rfl)
          | apply LQe
          | apply LQr
          | (apply W.condT; exact rfl)
          | (apply W.condF; exact rfl)
          | (apply W.cond; exact rfl; all_goals intro _)
          | (apply WO.gT; exact rfl)
          | (apply WO.gF; exact rfl)
          | (apply WO.sT; exact rfl)
          | (apply WO.sF; exact rfl)
          | (apply WO.sU; exact rfl)
          | (apply WO.lss; exact rfl; exact rfl; all_goals first | (intro _; exfalso; omega) | intro _)
          | (apply WO.gtr; exact rfl; exact rfl; all_goals first | (intro _; exfalso; omega) | intro _)
          | (apply WO.eql; exact rfl; exact rfl; all_goals first | (intro _; exfalso; omega) | intro _)
          | (apply WO.neq; exact rfl; exact rfl; all_goals first | (intro _; exfalso; omega) | intro _)
          | (apply WO.pkT; exact rfl; exact rfl)
          | (apply WO.pkF; exact rfl; exact rfl)
          | (apply WO.cll; exact rfl; exact rfl; first | exact q23 _ | exact q25' _ | exact q26 _ | exact z24 _ | exact q21 _)
          | (apply WO.iav; exact rfl; exact rfl; omega)
          | (apply WO.ias; exact rfl; exact rfl; omega)
          | (apply WO.lda; exact rfl; exact fun _ => rfl; (first | omega | (simp only [List.length_set]; omega) | (simp; omega)); decide; exact rfl; case ia => infer_instance)
          | (apply WO.lsa; exact rfl; (first | exact rfl | assumption | exact at_new | (apply at_old; assumption) | (apply at_put; first | assumption | (simp only [put_length]; assumption))); exact fun _ => rfl; (first | omega | (simp only [List.length_set]; omega) | (simp; omega)); decide; exact rfl; case ia => infer_instance)
          | (apply WO.seql; exact rfl; exact rfl; all_goals first | (intro h; exact absurd h (by decide)) | (intro h; exact absurd rfl h) | (intro h; contradiction) | intro _)
          | (apply WO.sneq; exact rfl; exact rfl; all_goals first | (intro h; exact absurd h (by decide)) | (intro h; exact absurd rfl h) | (intro h; contradiction) | intro _)
          | (apply WO.clb; exact rfl; exact rfl; exact rfl; all_goals first | (intro h; exact absurd h (by decide)) | intro _)
          | (apply WO.cll; exact rfl; exact rfl; exact rfl)
          | (apply WO.hlv; exact rfl; exact rfl; exact rfl)
          | (apply WO.hpv; exact rfl; exact rfl; exact rfl)
          | (apply WO.hnv; exact rfl; exact rfl; exact rfl)
          | (apply WO.pl; exact rfl; exact rfl)
          | (apply WO.pp; exact rfl; exact rfl)
        all_goals exact hEnd _ rfl rfl
  unfold b3
  simp only [List.map_cons, List.map_nil, List.getElem?_cons_zero, List.getElem?_cons_succ, List.getElem?_nil, Option.getD_some, Option.getD_none]
  by_cases hd : d0 < 1 ∨ 2147483646 < d0 ∨ d1 < 0 ∨ 256 < d1
  · have q19 := fun h => C.c19e d0 d1 h hd
    have q21 := fun h => bad21 3 h (by omega)
    rw [if_pos hd] at q20
    repeat' first
      | (exact rest _ _ _ _ _ _ _ _ _ _)
      | apply W.seq
      | apply SQn
      | apply W.region
      | apply WO.nil
      | apply W.block
      | apply W.ret
      | apply W.exit
      | apply W.skip
      | apply SQr
      | apply SQe
      | apply BQn
      | apply BQr
      | apply BQe
      | (apply BQo; exact rfl)
      | apply LQe
      | apply LQr
      | (apply W.condT; exact rfl)
      | (apply W.condF; exact rfl)
      | (apply W.cond; exact rfl; all_goals intro _)
      | (apply WO.gT; exact rfl)
      | (apply WO.gF; exact rfl)
      | (apply WO.sT; exact rfl)
      | (apply WO.sF; exact rfl)
      | (apply WO.sU; exact rfl)
      | (apply WO.lss; exact rfl; exact rfl; all_goals first | (intro _; exfalso; omega) | intro _)
      | (apply WO.gtr; exact rfl; exact rfl; all_goals first | (intro _; exfalso; omega) | intro _)
      | (apply WO.eql; exact rfl; exact rfl; all_goals first | (intro _; exfalso; omega) | intro _)
      | (apply WO.neq; exact rfl; exact rfl; all_goals first | (intro _; exfalso; omega) | intro _)
      | (apply WO.pkT; exact rfl; exact rfl)
      | (apply WO.pkF; exact rfl; exact rfl)
      | (apply WO.cll; exact rfl; exact rfl; first | exact C.c18 _ | exact q19 _ | exact q20 _ | exact q21 _)
      | (apply WO.iav; exact rfl; exact rfl; omega)
      | (apply WO.ias; exact rfl; exact rfl; omega)
      | (apply WO.lda; exact rfl; exact fun _ => rfl; (first | omega | (simp only [List.length_set]; omega) | (simp; omega)); decide; exact rfl; case ia => infer_instance)
      | (apply WO.lsa; exact rfl; (first | exact rfl | assumption | exact at_new | (apply at_old; assumption) | (apply at_put; first | assumption | (simp only [put_length]; assumption))); exact fun _ => rfl; (first | omega | (simp only [List.length_set]; omega) | (simp; omega)); decide; exact rfl; case ia => infer_instance)
      | (apply WO.seql; exact rfl; exact rfl; all_goals first | (intro h; exact absurd h (by decide)) | (intro h; exact absurd rfl h) | (intro h; contradiction) | intro _)
      | (apply WO.sneq; exact rfl; exact rfl; all_goals first | (intro h; exact absurd h (by decide)) | (intro h; exact absurd rfl h) | (intro h; contradiction) | intro _)
      | (apply WO.clb; exact rfl; exact rfl; exact rfl; all_goals first | (intro h; exact absurd h (by decide)) | intro _)
      | (apply WO.cll; exact rfl; exact rfl; exact rfl)
      | (apply WO.hlv; exact rfl; exact rfl; exact rfl)
      | (apply WO.hpv; exact rfl; exact rfl; exact rfl)
      | (apply WO.hnv; exact rfl; exact rfl; exact rfl)
      | (apply WO.pl; exact rfl; exact rfl)
      | (apply WO.pp; exact rfl; exact rfl)
  · obtain ⟨n, rfl⟩ : ∃ n : Nat, d1 = n := ⟨d1.toNat, by omega⟩
    have hn : n ≤ 256 := by omega
    rw [if_neg hd] at q20
    have q19 := fun h => C.c19 d0 n h (by omega) (by omega) hn
    have q22 := fun h => C.c22 d0 n h (by omega) (by omega) hn
    have hsh : (shuf (n - 1) d0 (upto n)).length = n := by rw [shuf_length, upto_length]
    have okS : ∀ (h : Heap), M.ext 21 [.sl h.length 0 n 1 (some n), .int .i64 0, .int .i64 0, .sl (h ++ [some (Blk.cells (ints (shuf (n - 1) d0 (upto n))) 3)]).length 0 n 1 (some n)] (h ++ [some (Blk.cells (ints (shuf (n - 1) d0 (upto n))) 3)] ++ [some (Blk.cells (ints (shuf (n - 1) d0 (upto n))) 3)]) = some ⟨.bool true, h ++ [some (Blk.cells (ints (shuf (n - 1) d0 (upto n))) 3)] ++ [some (Blk.cells (ints (shuf (n - 1) d0 (upto n))) 3)], []⟩ := fun h =>
      ok21 _ _ _ _ (by omega) (intsAt_sl' (at_old at_new) hsh) (intsAt_sl' at_new hsh)
    repeat' first
      | (exact rest _ _ _ _ _ _ _ _ _ _)
      | apply W.seq
      | apply SQn
      | apply W.region
      | apply WO.nil
      | apply W.block
      | apply W.ret
      | apply W.exit
      | apply W.skip
      | apply SQr
      | apply SQe
      | apply BQn
      | apply BQr
      | apply BQe
      | (apply BQo; exact rfl)
      | apply LQe
      | apply LQr
      | (apply W.condT; exact rfl)
      | (apply W.condF; exact rfl)
      | (apply W.cond; exact rfl; all_goals intro _)
      | (apply WO.gT; exact rfl)
      | (apply WO.gF; exact rfl)
      | (apply WO.sT; exact rfl)
      | (apply WO.sF; exact rfl)
      | (apply WO.sU; exact rfl)
      | (apply WO.lss; exact rfl; exact rfl; all_goals first | (intro _; exfalso; omega) | intro _)
      | (apply WO.gtr; exact rfl; exact rfl; all_goals first | (intro _; exfalso; omega) | intro _)
      | (apply WO.eql; exact rfl; exact rfl; all_goals first | (intro _; exfalso; omega) | intro _)
      | (apply WO.neq; exact rfl; exact rfl; all_goals first | (intro _; exfalso; omega) | intro _)
      | (apply WO.pkT; exact rfl; exact rfl)
      | (apply WO.pkF; exact rfl; exact rfl)
      | (apply WO.cll; exact rfl; exact rfl; first | exact C.c18 _ | exact q19 _ | exact q20 _ | exact q22 _ | exact okS _)
      | (apply WO.iav; exact rfl; exact rfl; omega)
      | (apply WO.ias; exact rfl; exact rfl; omega)
      | (apply WO.lda; exact rfl; exact fun _ => rfl; (first | omega | (simp only [List.length_set]; omega) | (simp; omega)); decide; exact rfl; case ia => infer_instance)
      | (apply WO.lsa; exact rfl; (first | exact rfl | assumption | exact at_new | (apply at_old; assumption) | (apply at_put; first | assumption | (simp only [put_length]; assumption))); exact fun _ => rfl; (first | omega | (simp only [List.length_set]; omega) | (simp; omega)); decide; exact rfl; case ia => infer_instance)
      | (apply WO.seql; exact rfl; exact rfl; all_goals first | (intro h; exact absurd h (by decide)) | (intro h; exact absurd rfl h) | (intro h; contradiction) | intro _)
      | (apply WO.sneq; exact rfl; exact rfl; all_goals first | (intro h; exact absurd h (by decide)) | (intro h; exact absurd rfl h) | (intro h; contradiction) | intro _)
      | (apply WO.clb; exact rfl; exact rfl; exact rfl; all_goals first | (intro h; exact absurd h (by decide)) | intro _)
      | (apply WO.cll; exact rfl; exact rfl; exact rfl)
      | (apply WO.hlv; exact rfl; exact rfl; exact rfl)
      | (apply WO.hpv; exact rfl; exact rfl; exact rfl)
      | (apply WO.hnv; exact rfl; exact rfl; exact rfl)
      | (apply WO.pl; exact rfl; exact rfl)
      | (apply WO.pp; exact rfl; exact rfl)
end Go.Ab.Ch1

/-
  Own work: the contracts of MarkDraws as a table.
-/
namespace Go.Ab.Ch1
open Go.Proofs Go.Ab.Sort

/-- Two lists of integers, as their contents. -/
theorem two_fr {h : Heap} {x y : AV} {l m : List Int} (hx : intsAt h x = some l) (hy : intsAt h y = some m) : ∃ S c1 c2, Fr h S x (.vs (ints l) l.length c1) ∧ Fr h S y (.vs (ints m) m.length c2) := by
  obtain ⟨S1, c1, h1⟩ := (intsAt_sl hx).fr (fun _ => rfl)
  obtain ⟨S2, c2, h2⟩ := (intsAt_sl hy).fr (fun _ => rfl)
  exact ⟨S1 ++ S2, c1, c2, h1.mono (fun b hb => List.mem_append_left _ hb), h2.mono (fun b hb => List.mem_append_right _ hb)⟩

def spec93 : Spec := fun
  | [x, y], h => match intsAt h x, intsAt h y with
    | some l, some m => if l.length < 4611686018427387904 then some ⟨.bool (decide (l = m)), h, []⟩ else none
    | _, _ => none
  | _, _ => none
theorem same93 : SpecOK Tryz.prog gl 93 spec93 := by
  intro xs h r hq
  unfold spec93 at hq
  split at hq
  · split at hq
    · rename_i l m hl hm
      split at hq
      · rename_i hlen
        cases hq
        obtain ⟨S, c1, c2, f1, f2⟩ := two_fr hl hm
        exact ent_run0 seat tab_nil (w93 mach_ft l m c1 c2 hlen) (.cons f1 (.cons f2 .nil)) rfl (.inr rfl)
      · cases hq
    · cases hq
  · cases hq

def spec21 : Spec := fun
  | [x, .int .i64 e, .int .i64 bad, y], h => match intsAt h x, intsAt h y with
    | some l, some m => if l.length < 4611686018427387904 then some ⟨.bool (if bad ≠ 0 then decide (l.length = 0 ∧ e = bad) else decide (e = 0 ∧ l = m)), h, []⟩ else none
    | _, _ => none
  | _, _ => none
def T93 : List (Nat × Spec) := [(93, spec93)]
theorem list21 : SpecOK Tryz.prog gl 21 spec21 := by
  intro xs h r hq
  unfold spec21 at hq
  split at hq
  · split at hq
    · rename_i l m hl hm
      split at hq
      · rename_i hlen
        cases hq
        obtain ⟨S, c1, c2, f1, f2⟩ := two_fr hl hm
        refine ent_run0 seat (T := T93) (tab_cons same93 tab_nil) (w21 mach_ft l m _ _ c1 c2 fun hp => ?_) (.cons f1 (.cons (.same rfl) (.cons (.same rfl) (.cons f2 .nil)))) rfl (.inr rfl)
        rw [mach_ext]
        show spec93 [.vs (ints l) l.length c1, .vs (ints m) m.length c2] hp = _
        simp only [spec93, intsAt_vs, if_pos hlen]
      · cases hq
    · cases hq
  · cases hq

def spec22 : Spec := fun
  | [.int .i64 key, .int .i64 n], h => if 1 ≤ key ∧ key ≤ 2147483646 ∧ 0 ≤ n ∧ n ≤ 256 then some ⟨.sl h.length 0 n.toNat 1 (some n.toNat), h ++ [some (.cells (ints (shuf (n.toNat - 1) key (upto n.toNat))) 3)], []⟩ else none
  | _, _ => none
theorem draw22 : SpecOK Tryz.prog gl 22 spec22 := by
  intro xs h r hq
  unfold spec22 at hq
  split at hq
  · rename_i key n
    split at hq
    · rename_i hc
      cases hq
      have hw := w22 (M := mach Tryz.prog FT []) mach_ft key n.toNat hc.1 hc.2.1 (by omega)
      rw [show ((n.toNat : Nat) : Int) = n from by omega] at hw
      exact ent_run1 seat tab_nil hw (FrL.same rfl) (k := 0) (.sl (i := 0) rfl) rfl (ints_top _) (.inl rfl) (.inl rfl)
    · cases hq
  · cases hq

def spec19 : Spec := fun
  | [.int .i64 key, .int .i64 n], h => if key < 1 ∨ 2147483646 < key ∨ n < 0 ∨ 256 < n then some ⟨.tup [.nilsl, .int .i64 3], h, []⟩ else s19 [.int .i64 key, .int .i64 n] h
  | _, _ => none
theorem draw19 : SpecOK Tryz.prog gl 19 spec19 := by
  intro xs h r hq
  unfold spec19 at hq
  split at hq
  · rename_i key n
    split at hq
    · rename_i hc
      cases hq
      exact ent_run0 seat T95_ok (w19e (M := mach Tryz.prog FT T95) mach_ft (fun _ _ _ _ => by rw [mach_ext]; rfl) key n hc) (FrL.same rfl) rfl (.inl rfl)
    · exact s19_ok _ _ _ hq
  · cases hq

def spec98 : Spec := fun
  | [x], h => match intsAt h x with
    | some w => if w.length < 4611686018427387904 then some ⟨.int .i64 (checkW w), h, []⟩ else none
    | none => none
  | _, _ => none
def T98 : List (Nat × Spec) := [(95, s95), (97, specWhen), (96, specFirst)]
theorem T98_ok : ExtOK Tryz.prog gl (extS T98) := tab_cons s95_ok (tab_cons when97 (tab_cons first96 tab_nil))
theorem calls98 : Calls98 (mach Tryz.prog FT T98) where
  ft := mach_ft
  n171 _ _ := rfl
  n172 _ _ := rfl
  n173 _ _ := rfl
  n220 _ _ := rfl
  c95 _ _ _ _ := by rw [mach_ext]; rfl
  c97 _ _ _ := by rw [mach_ext]; rfl
  c96 x l h hx hl := by
    rw [mach_ext]
    show specFirst [x] h = _
    simp only [specFirst, hx, if_pos hl]
theorem weights98 : SpecOK Tryz.prog gl 98 spec98 := by
  intro xs h r hq
  unfold spec98 at hq
  split at hq
  · split at hq
    · rename_i w hw
      split at hq
      · rename_i hlen
        cases hq
        obtain ⟨S, cap, hf⟩ := (intsAt_sl hw).fr (fun _ => rfl)
        exact ent_run0 seat T98_ok (w98 calls98 w cap hlen) (.cons hf .nil) rfl (.inr rfl)
      · cases hq
    · cases hq
  · cases hq

def spec26 : Spec := fun
  | [x], h => match intsAt h x with
    | some w => some ⟨.int .i64 (checkW w), h, []⟩
    | none => none
  | _, _ => none
theorem weights26 : SpecOK Tryz.prog gl 26 spec26 := by
  intro xs h r hq
  unfold spec26 at hq
  split at hq
  · split at hq
    · rename_i w hw
      cases hq
      obtain ⟨S, cap, hf⟩ := (intsAt_sl hw).fr (fun _ => rfl)
      exact ent_run0 seat tab_nil (w26 mach_ft w cap) (.cons hf .nil) rfl (.inr rfl)
    · cases hq
  · cases hq

theorem novL_ints (l : List Int) : novL (ints l) = true := novL_arr (fun _ => rfl) l
def spec23 : Spec := fun
  | [.int .i64 total, x], h => match intsAt h x with
    | some w => if sharesE total w = 0 then some ⟨.tup [.sl h.length 0 w.length 1 none, .int .i64 0], h ++ [some (.cells (ints (share total w)) 3)], []⟩
      else if w.length < 4611686018427387904 then some ⟨.tup [.nilsl, .int .i64 (sharesE total w)], h, []⟩ else none
    | none => none
  | _, _ => none
def T23 : List (Nat × Spec) := [(95, s95), (97, specWhen), (96, specFirst), (98, spec98)]
theorem T23_ok : ExtOK Tryz.prog gl (extS T23) := tab_cons s95_ok (tab_cons when97 (tab_cons first96 (tab_cons weights98 tab_nil)))
theorem calls23 : Calls23 (mach Tryz.prog FT T23) where
  ft := mach_ft
  n99 _ _ := rfl
  n174 _ _ := rfl
  n221 _ _ := rfl
  n222 _ _ := rfl
  n261 _ _ := rfl
  n298 _ _ := rfl
  n100 _ _ := rfl
  c95 _ _ _ _ := by rw [mach_ext]; rfl
  c97 _ _ _ := by rw [mach_ext]; rfl
  c96 x l h hx hl := by
    rw [mach_ext]
    show specFirst [x] h = _
    simp only [specFirst, hx, if_pos hl]
  c98 w cap h hl := by
    rw [mach_ext]
    show spec98 [.vs (ints w) w.length cap] h = _
    simp only [spec98, intsAt_vs, if_pos hl]
theorem shares23 : SpecOK Tryz.prog gl 23 spec23 := by
  intro xs h r hq
  unfold spec23 at hq
  split at hq
  · rename_i total x
    split at hq
    · rename_i w hw
      obtain ⟨S, cap, hf⟩ := (intsAt_sl hw).fr (fun _ => rfl)
      split at hq
      · rename_i hE
        cases hq
        obtain ⟨bs, hh, hr, hat⟩ := w23 calls23 total w cap hE
        refine ent_run1 seat T23_ok hr (.cons (.same rfl) (.cons hf .nil)) (k := bs) (.tup rfl fun i x y hx hy => ?_) hat (ints_top _) (.inr (novL_ints _)) (.inr rfl)
        match i, hx, hy with
        | 0, hx, hy => cases hx; cases hy; exact .sl (i := 0) rfl
        | 1, hx, hy => cases hx; cases hy; exact .same rfl
      · rename_i hE
        split at hq
        · rename_i hlen
          cases hq
          exact ent_run0 seat T23_ok (w23e calls23 total w cap hlen hE) (.cons (.same rfl) (.cons hf .nil)) rfl (.inr rfl)
        · cases hq
    · cases hq
  · cases hq

def spec27 : Spec := fun
  | [.int .i64 total, x], h => match intsAt h x with
    | some w => if sharesE total w = 0 then some ⟨.sl h.length 0 w.length 1 (some w.length), h ++ [some (.cells (ints (share total w)) 3)], []⟩ else none
    | none => none
  | _, _ => none
theorem shares27 : SpecOK Tryz.prog gl 27 spec27 := by
  intro xs h r hq
  unfold spec27 at hq
  split at hq
  · rename_i total x
    split at hq
    · rename_i w hw
      obtain ⟨S, cap, hf⟩ := (intsAt_sl hw).fr (fun _ => rfl)
      split at hq
      · rename_i hE
        cases hq
        obtain ⟨R, hr⟩ := w27 (M := mach Tryz.prog FT []) mach_ft (sharesE_ok hE) cap
        exact ent_run1 seat tab_nil hr (.cons (.same rfl) (.cons hf .nil)) (k := 0) (.sl (i := 0) rfl) rfl (ints_top _) (.inr (novL_ints _)) (.inr rfl)
      · cases hq
    · cases hq
  · cases hq

def TDraws : List (Nat × Spec) := [(18, s18), (19, spec19), (20, s20), (21, spec21), (22, spec22), (23, spec23), (24, specFirst), (25, specWhen), (26, spec26), (27, spec27)]
theorem TDraws_ok : ExtOK Tryz.prog gl (extS TDraws) :=
  tab_cons s18_ok (tab_cons draw19 (tab_cons s20_ok (tab_cons list21 (tab_cons draw22 (tab_cons shares23 (tab_cons first24 (tab_cons when25 (tab_cons weights26 (tab_cons shares27 tab_nil)))))))))
theorem calls3 : Calls3 (mach Tryz.prog FT TDraws) where
  c18 h := by rw [mach_ext]; exact s18_eq h
  c19 key n h h0 h1 h2 := by
    rw [mach_ext]
    show spec19 [.int .i64 key, .int .i64 n] h = _
    simp only [spec19]
    rw [if_neg (by omega)]
    exact s19_eq key n h h0 h1 h2
  c19e key n h hb := by
    rw [mach_ext]
    show spec19 [.int .i64 key, .int .i64 n] h = _
    simp only [spec19]
    rw [if_pos hb]
  c20 _ _ _ := by rw [mach_ext]; rfl
  c21 x y l m e bad h hx hy hl := by
    rw [mach_ext]
    show spec21 [x, .int .i64 e, .int .i64 bad, y] h = _
    simp only [spec21, hx, hy, if_pos hl]
  c22 key n h h0 h1 h2 := by
    rw [mach_ext]
    show spec22 [.int .i64 key, .int .i64 n] h = _
    simp only [spec22]
    rw [if_pos (by omega), Int.toNat_natCast]
  c23 total w x h hx hE := by
    rw [mach_ext]
    show spec23 [.int .i64 total, x] h = _
    simp only [spec23, hx, if_pos hE]
  c23e total w x h hx hl hE := by
    rw [mach_ext]
    show spec23 [.int .i64 total, x] h = _
    simp only [spec23, hx, if_neg hE, if_pos hl]
  c24 x l h hx hl := by
    rw [mach_ext]
    show specFirst [x] h = _
    simp only [specFirst, hx, if_pos hl]
  c25 _ _ _ := by rw [mach_ext]; rfl
  c26 w x h hx := by
    rw [mach_ext]
    show spec26 [x] h = _
    simp only [spec26, hx]
  c27 total w x h hx hE := by
    rw [mach_ext]
    show spec27 [.int .i64 total, x] h = _
    simp only [spec27, hx, if_pos hE]
end Go.Ab.Ch1
