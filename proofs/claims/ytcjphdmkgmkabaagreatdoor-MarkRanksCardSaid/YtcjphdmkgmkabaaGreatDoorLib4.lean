/-
  Own work: the reference's check and ranks of marks.
-/
import Derived.Test.YtcjphdmkgmkabaaGreatDoorLib3
import Derived.Test.YtcjphdmkgmkabaaGreatDoorCh1Base
import Derived.Test.YtcjphdmkgmkabaaGreatDoorLib2
namespace Go.Ab.Ch1
variable {M : Mach}

/-- The first error of marks, as the reference looks for it. -/
def refScan (p : List UInt8) : List Mk → Int
  | [] => 0
  | m :: r => if chkM m ≠ 0 then chkM m else if m.1 = sNone then refScan p r else if p ≠ [] ∧ p ≠ m.1 then 13 else refScan m.1 r
theorem refScan_drop {p : List UInt8} {l : List Mk} {i : Nat} (h : i < l.length) : refScan p (l.drop i) = if chkM l[i]! ≠ 0 then chkM l[i]! else if l[i]!.1 = sNone then refScan p (l.drop (i + 1)) else if p ≠ [] ∧ p ≠ l[i]!.1 then 13 else refScan l[i]!.1 (l.drop (i + 1)) := by
  rw [List.drop_eq_getElem_cons h, getElem!_pos l i h, refScan]
/-- The error of a list of marks. -/
def marksE (l : List Mk) : Int := if 256 < l.length then 5 else refScan [] l

set_option maxHeartbeats 1000000 in
theorem loop48_0 (c35 : ∀ m h, M.ext 35 [am m] h = some ⟨.int .i64 (chkM m), h, []⟩) (l : List Mk) (cap : Option Nat) (hn : l.length < 1000000) {Q : Ex → StW → Prop} : ∀ (r i : Nat) (p : List UInt8) (a4 : AV) (lo : List (Nat × AV)) (wr : List Nat), i + r = l.length →
    (refScan p (l.drop i) = 0 → ∀ a2 a3 a4 lo wr, Q (.exit 0) ⟨⟨[.vs (arr cm l) l.length cap, .int .i64 0, a2, a3, a4], lo, [], []⟩, wr⟩) →
    (refScan p (l.drop i) ≠ 0 → ∀ a2 a3 a4 lo wr, Q .ret ⟨⟨[.vs (arr cm l) l.length cap, .int .i64 (refScan p (l.drop i)), a2, a3, a4], lo, [], []⟩, wr⟩) →
    W M (.loop b48_0) ⟨⟨[.vs (arr cm l) l.length cap, .int .i64 0, .str p, .int .i64 i, a4], lo, [], []⟩, wr⟩ Q := by
  intro r
  induction r with
  | zero =>
    intro i p a4 lo wr hi h1 h2
    obtain rfl : i = l.length := by omega
    refine W.loop ?_
    unfold b48_0
    repeat' first | apply W.seq | apply SQn | apply W.region | apply WO.nil | apply W.block | apply W.ret | apply W.exit | apply W.skip | apply SQr | apply SQe | apply BQn | apply BQr | apply BQe | (apply BQo; exact rfl) | apply LQe | apply LQr | (apply W.condT; exact rfl) | (apply W.condF; exact rfl) | (apply W.cond; exact rfl; all_goals intro _) | (apply WO.gT; exact rfl) | (apply WO.gF; exact rfl) | (apply WO.sT; exact rfl) | (apply WO.sF; exact rfl) | (apply WO.sU; exact rfl) | (apply WO.lss; exact rfl; exact rfl; all_goals first | (intro _; exfalso; omega) | intro _) | (apply WO.eql; exact rfl; exact rfl; all_goals first | (intro _; exfalso; omega) | intro _) | (apply WO.neq; exact rfl; exact rfl; all_goals first | (intro _; exfalso; omega) | intro _) | (apply WO.pkT; exact rfl; exact rfl) | (apply WO.pkF; exact rfl; exact rfl) | (apply WO.add; exact rfl; exact rfl; omega) | (apply WO.iav; exact rfl; exact rfl; omega) | (apply WO.ias; exact rfl; exact rfl; omega) | (apply WO.lda; exact rfl; exact fun _ => rfl; (first | omega | (simp only [List.length_set]; omega) | (simp; omega)); decide; exact rfl; case ia => infer_instance) | (apply WO.lsa; exact rfl; (first | exact rfl | assumption | exact at_new | (apply at_old; assumption) | (apply at_put; first | assumption | (simp only [put_length]; assumption))); exact fun _ => rfl; (first | omega | (simp only [List.length_set]; omega) | (simp; omega)); decide; exact rfl; case ia => infer_instance) | (apply WO.ldf; exact rfl; exact fun _ => rfl; (first | omega | (simp only [List.length_set]; omega) | (simp; omega)); decide; exact rfl; case ia => infer_instance) | (apply WO.lsf; exact rfl; (first | exact rfl | assumption | exact at_new | (apply at_old; assumption) | (apply at_put; first | assumption | (simp only [put_length]; assumption))); exact fun _ => rfl; (first | omega | (simp only [List.length_set]; omega) | (simp; omega)); decide; exact rfl; case ia => infer_instance) | (apply WO.seql; exact rfl; exact rfl; all_goals first | (intro h; exact absurd h (by decide)) | (intro h; exact absurd rfl h) | (intro h; contradiction) | intro _) | (apply WO.sneq; exact rfl; exact rfl; all_goals first | (intro h; exact absurd h (by decide)) | (intro h; exact absurd rfl h) | (intro h; contradiction) | intro _) | (apply WO.clb; exact rfl; exact rfl; exact rfl; all_goals first | (intro h; exact absurd h (by decide)) | intro _) | (apply WO.cll; exact rfl; exact rfl; exact rfl) | (apply WO.hlv; exact rfl; exact rfl; exact rfl) | (apply WO.hpv; exact rfl; exact rfl; exact rfl) | (apply WO.hnv; exact rfl; exact rfl; exact rfl) | (apply WO.pl; exact rfl; exact rfl) | (apply WO.pp; exact rfl; exact rfl)
    exact h1 (by simp [refScan]) _ _ _ _ _
  | succ r ih =>
    intro i p a4 lo wr hi h1 h2
    have hd := refScan_drop (p := p) (l := l) (i := i) (by omega)
    have f1 : ((i : Int)).toNat = i := by omega
    rw [← f1] at hd
    refine W.loop ?_
    by_cases hc : chkM l[((i : Int)).toNat]! = 0
    · rw [if_neg (fun h => h hc)] at hd
      have q35 : ∀ h, M.ext 35 [am l[((i : Int)).toNat]!] h = some ⟨.int .i64 0, h, []⟩ := fun h => by rw [c35, hc]
      by_cases hk : l[((i : Int)).toNat]!.1 = sNone
      · rw [if_pos hk] at hd
        unfold b48_0
        repeat' first | apply W.seq | apply SQn | apply W.region | apply WO.nil | apply W.block | apply W.ret | apply W.exit | apply W.skip | apply SQr | apply SQe | apply BQn | apply BQr | apply BQe | (apply BQo; exact rfl) | apply LQe | apply LQr | (apply W.condT; exact rfl) | (apply W.condF; exact rfl) | (apply W.cond; exact rfl; all_goals intro _) | (apply WO.gT; exact rfl) | (apply WO.gF; exact rfl) | (apply WO.sT; exact rfl) | (apply WO.sF; exact rfl) | (apply WO.sU; exact rfl) | (apply WO.lss; exact rfl; exact rfl; all_goals first | (intro _; exfalso; omega) | intro _) | (apply WO.eql; exact rfl; exact rfl; all_goals first | (intro _; exfalso; omega) | intro _) | (apply WO.neq; exact rfl; exact rfl; all_goals first | (intro _; exfalso; omega) | intro _) | (apply WO.pkT; exact rfl; exact rfl) | (apply WO.pkF; exact rfl; exact rfl) | (apply WO.add; exact rfl; exact rfl; omega) | (apply WO.cll; exact rfl; exact rfl; first | exact q35 _) | (apply WO.iav; exact rfl; exact rfl; omega) | (apply WO.ias; exact rfl; exact rfl; omega) | (apply WO.lda; exact rfl; exact fun _ => rfl; (first | omega | (simp only [List.length_set]; omega) | (simp; omega)); decide; exact rfl; case ia => infer_instance) | (apply WO.lsa; exact rfl; (first | exact rfl | assumption | exact at_new | (apply at_old; assumption) | (apply at_put; first | assumption | (simp only [put_length]; assumption))); exact fun _ => rfl; (first | omega | (simp only [List.length_set]; omega) | (simp; omega)); decide; exact rfl; case ia => infer_instance) | (apply WO.ldf; exact rfl; exact fun _ => rfl; (first | omega | (simp only [List.length_set]; omega) | (simp; omega)); decide; exact rfl; case ia => infer_instance) | (apply WO.lsf; exact rfl; (first | exact rfl | assumption | exact at_new | (apply at_old; assumption) | (apply at_put; first | assumption | (simp only [put_length]; assumption))); exact fun _ => rfl; (first | omega | (simp only [List.length_set]; omega) | (simp; omega)); decide; exact rfl; case ia => infer_instance) | (apply WO.seql; exact rfl; exact rfl; all_goals first | (intro h; exact absurd h (by decide)) | (intro h; exact absurd rfl h) | (intro h; contradiction) | intro _) | (apply WO.sneq; exact rfl; exact rfl; all_goals first | (intro h; exact absurd h (by decide)) | (intro h; exact absurd rfl h) | (intro h; contradiction) | intro _) | (apply WO.clb; exact rfl; exact rfl; exact rfl; all_goals first | (intro h; exact absurd h (by decide)) | intro _) | (apply WO.cll; exact rfl; exact rfl; exact rfl) | (apply WO.hlv; exact rfl; exact rfl; exact rfl) | (apply WO.hpv; exact rfl; exact rfl; exact rfl) | (apply WO.hnv; exact rfl; exact rfl; exact rfl) | (apply WO.pl; exact rfl; exact rfl) | (apply WO.pp; exact rfl; exact rfl)
        rw [f1] at hd
        rw [hd] at h1 h2
        exact LQn (ih (i + 1) p _ _ _ (by omega) h1 h2)
      · rw [if_neg hk] at hd
        unfold b48_0
        repeat' first | apply W.seq | apply SQn | apply W.region | apply WO.nil | apply W.block | apply W.ret | apply W.exit | apply W.skip | apply SQr | apply SQe | apply BQn | apply BQr | apply BQe | (apply BQo; exact rfl) | apply LQe | apply LQr | (apply W.condT; exact rfl) | (apply W.condF; exact rfl) | (apply W.cond; exact rfl; all_goals intro _) | (apply WO.gT; exact rfl) | (apply WO.gF; exact rfl) | (apply WO.sT; exact rfl) | (apply WO.sF; exact rfl) | (apply WO.sU; exact rfl) | (apply WO.lss; exact rfl; exact rfl; all_goals first | (intro _; exfalso; omega) | intro _) | (apply WO.eql; exact rfl; exact rfl; all_goals first | (intro _; exfalso; omega) | intro _) | (apply WO.neq; exact rfl; exact rfl; all_goals first | (intro _; exfalso; omega) | intro _) | (apply WO.pkT; exact rfl; exact rfl) | (apply WO.pkF; exact rfl; exact rfl) | (apply WO.add; exact rfl; exact rfl; omega) | (apply WO.cll; exact rfl; exact rfl; first | exact q35 _) | (apply WO.iav; exact rfl; exact rfl; omega) | (apply WO.ias; exact rfl; exact rfl; omega) | (apply WO.lda; exact rfl; exact fun _ => rfl; (first | omega | (simp only [List.length_set]; omega) | (simp; omega)); decide; exact rfl; case ia => infer_instance) | (apply WO.lsa; exact rfl; (first | exact rfl | assumption | exact at_new | (apply at_old; assumption) | (apply at_put; first | assumption | (simp only [put_length]; assumption))); exact fun _ => rfl; (first | omega | (simp only [List.length_set]; omega) | (simp; omega)); decide; exact rfl; case ia => infer_instance) | (apply WO.ldf; exact rfl; exact fun _ => rfl; (first | omega | (simp only [List.length_set]; omega) | (simp; omega)); decide; exact rfl; case ia => infer_instance) | (apply WO.lsf; exact rfl; (first | exact rfl | assumption | exact at_new | (apply at_old; assumption) | (apply at_put; first | assumption | (simp only [put_length]; assumption))); exact fun _ => rfl; (first | omega | (simp only [List.length_set]; omega) | (simp; omega)); decide; exact rfl; case ia => infer_instance) | (apply WO.seql; exact rfl; exact rfl; all_goals first | (intro h; exact absurd h (by decide)) | (intro h; exact absurd rfl h) | (intro h; contradiction) | intro _) | (apply WO.sneq; exact rfl; exact rfl; all_goals first | (intro h; exact absurd h (by decide)) | (intro h; exact absurd rfl h) | (intro h; contradiction) | intro _) | (apply WO.clb; exact rfl; exact rfl; exact rfl; all_goals first | (intro h; exact absurd h (by decide)) | intro _) | (apply WO.cll; exact rfl; exact rfl; exact rfl) | (apply WO.hlv; exact rfl; exact rfl; exact rfl) | (apply WO.hpv; exact rfl; exact rfl; exact rfl) | (apply WO.hnv; exact rfl; exact rfl; exact rfl) | (apply WO.pl; exact rfl; exact rfl) | (apply WO.pp; exact rfl; exact rfl)
        · rename_i g1 g2
          rw [if_pos ⟨g1, g2⟩, f1] at hd
          rw [hd] at h2
          exact h2 (by omega) _ _ _ _ _
        · rename_i g1 g2
          rw [if_neg (fun h => h.2 g2), f1] at hd
          rw [hd] at h1 h2
          exact LQn (ih (i + 1) l[i]!.1 _ _ _ (by omega) h1 h2)
        · rename_i g1
          rw [if_neg (fun h => h.1 g1), f1] at hd
          rw [hd] at h1 h2
          exact LQn (ih (i + 1) l[i]!.1 _ _ _ (by omega) h1 h2)
    · rw [if_pos hc] at hd
      have q35 : ∀ h, M.ext 35 [am l[((i : Int)).toNat]!] h = some ⟨.int .i64 (chkM l[((i : Int)).toNat]!), h, []⟩ := fun h => c35 _ _
      unfold b48_0
      repeat' first | apply W.seq | apply SQn | apply W.region | apply WO.nil | apply W.block | apply W.ret | apply W.exit | apply W.skip | apply SQr | apply SQe | apply BQn | apply BQr | apply BQe | (apply BQo; exact rfl) | apply LQe | apply LQr | (apply W.condT; exact rfl) | (apply W.condF; exact rfl) | (apply W.cond; exact rfl; all_goals intro _) | (apply WO.gT; exact rfl) | (apply WO.gF; exact rfl) | (apply WO.sT; exact rfl) | (apply WO.sF; exact rfl) | (apply WO.sU; exact rfl) | (apply WO.lss; exact rfl; exact rfl; all_goals first | (intro _; exfalso; omega) | intro _) | (apply WO.eql; exact rfl; exact rfl; all_goals first | (intro _; exfalso; omega) | intro _) | (apply WO.neq; exact rfl; exact rfl; all_goals first | (intro _; exfalso; omega) | intro _) | (apply WO.pkT; exact rfl; exact rfl) | (apply WO.pkF; exact rfl; exact rfl) | (apply WO.add; exact rfl; exact rfl; omega) | (apply WO.cll; exact rfl; exact rfl; first | exact q35 _) | (apply WO.iav; exact rfl; exact rfl; omega) | (apply WO.ias; exact rfl; exact rfl; omega) | (apply WO.lda; exact rfl; exact fun _ => rfl; (first | omega | (simp only [List.length_set]; omega) | (simp; omega)); decide; exact rfl; case ia => infer_instance) | (apply WO.lsa; exact rfl; (first | exact rfl | assumption | exact at_new | (apply at_old; assumption) | (apply at_put; first | assumption | (simp only [put_length]; assumption))); exact fun _ => rfl; (first | omega | (simp only [List.length_set]; omega) | (simp; omega)); decide; exact rfl; case ia => infer_instance) | (apply WO.ldf; exact rfl; exact fun _ => rfl; (first | omega | (simp only [List.length_set]; omega) | (simp; omega)); decide; exact rfl; case ia => infer_instance) | (apply WO.lsf; exact rfl; (first | exact rfl | assumption | exact at_new | (apply at_old; assumption) | (apply at_put; first | assumption | (simp only [put_length]; assumption))); exact fun _ => rfl; (first | omega | (simp only [List.length_set]; omega) | (simp; omega)); decide; exact rfl; case ia => infer_instance) | (apply WO.seql; exact rfl; exact rfl; all_goals first | (intro h; exact absurd h (by decide)) | (intro h; exact absurd rfl h) | (intro h; contradiction) | intro _) | (apply WO.sneq; exact rfl; exact rfl; all_goals first | (intro h; exact absurd h (by decide)) | (intro h; exact absurd rfl h) | (intro h; contradiction) | intro _) | (apply WO.clb; exact rfl; exact rfl; exact rfl; all_goals first | (intro h; exact absurd h (by decide)) | intro _) | (apply WO.cll; exact rfl; exact rfl; exact rfl) | (apply WO.hlv; exact rfl; exact rfl; exact rfl) | (apply WO.hpv; exact rfl; exact rfl; exact rfl) | (apply WO.hnv; exact rfl; exact rfl; exact rfl) | (apply WO.pl; exact rfl; exact rfl) | (apply WO.pp; exact rfl; exact rfl)
      rw [f1] at hd
      rw [hd] at h2
      exact h2 (by rw [← f1]; exact hc) _ _ _ _ _
theorem w48 (hft : M.FT = FT) (c35 : ∀ m h, M.ext 35 [am m] h = some ⟨.int .i64 (chkM m), h, []⟩) (l : List Mk) (cap : Option Nat) (hn : l.length < 1000000) : Run M 48 [.vs (arr cm l) l.length cap] [] ⟨.int .i64 (marksE l), [], []⟩ := by
  refine run_of_W (by rw [hft]; exact ft48) (by simp) ?_
  unfold b48
  simp only [List.map_cons, List.map_nil, List.getElem?_cons_zero, List.getElem?_cons_succ, List.getElem?_nil, Option.getD_some, Option.getD_none]
  repeat' first | apply W.seq | apply SQn | apply W.region | apply WO.nil | apply W.block | apply W.ret | apply W.exit | apply W.skip | apply SQr | apply SQe | apply BQn | apply BQr | apply BQe | (apply BQo; exact rfl) | apply LQe | apply LQr | (apply W.condT; exact rfl) | (apply W.condF; exact rfl) | (apply W.cond; exact rfl; all_goals intro _) | (apply WO.gtr; exact rfl; exact rfl; all_goals first | (intro _; exfalso; omega) | intro _) | (apply WO.pl; exact rfl; exact rfl) | (apply WO.pp; exact rfl; exact rfl)
  · rw [marksE, if_pos (by omega)]
    exact ⟨.inr rfl, rfl, _, rfl, rfl, rfl⟩
  · rename_i hl
    rw [marksE, if_neg (by omega)]
    refine loop48_0 c35 l cap hn l.length 0 [] _ _ _ (by omega) (fun h a2 a3 a4 lo wr => ?_) (fun h a2 a3 a4 lo wr => ?_)
    · rw [List.drop_zero] at h
      rw [h]
      repeat' first | apply W.seq | apply SQn | apply W.region | apply WO.nil | apply W.block | apply W.ret | apply W.exit | apply W.skip | apply SQr | apply SQe | apply BQn | apply BQr | apply BQe | (apply BQo; exact rfl) | apply LQe | apply LQr | (apply W.condT; exact rfl) | (apply W.condF; exact rfl) | (apply W.cond; exact rfl; all_goals intro _) | (apply WO.gtr; exact rfl; exact rfl; all_goals first | (intro _; exfalso; omega) | intro _) | (apply WO.pl; exact rfl; exact rfl) | (apply WO.pp; exact rfl; exact rfl)
      exact ⟨.inr rfl, rfl, _, rfl, rfl, rfl⟩
    · repeat' first | apply W.seq | apply SQn | apply W.region | apply WO.nil | apply W.block | apply W.ret | apply W.exit | apply W.skip | apply SQr | apply SQe | apply BQn | apply BQr | apply BQe | (apply BQo; exact rfl) | apply LQe | apply LQr | (apply W.condT; exact rfl) | (apply W.condF; exact rfl) | (apply W.cond; exact rfl; all_goals intro _) | (apply WO.gtr; exact rfl; exact rfl; all_goals first | (intro _; exfalso; omega) | intro _) | (apply WO.pl; exact rfl; exact rfl) | (apply WO.pp; exact rfl; exact rfl)
      exact ⟨.inr rfl, rfl, _, rfl, rfl, rfl⟩

/-! The two checks agree. -/
theorem refScan_scan : ∀ (l : List Mk) (v : Mk) (p : List UInt8), (v.1 = sNone ∧ p = []) ∨ (v.1 = p ∧ p ≠ [] ∧ p ≠ sNone) → scan v l = refScan p l
  | [], _, _, _ => rfl
  | m :: r, v, p, h => by
    rw [scan, refScan]
    by_cases hc : chkM m = 0
    · have hs : stepE v m = if differ v.1 m.1 then 13 else 0 := by
        simp only [stepE, firstNZ, hc, if_true]
        split <;> simp_all
      rw [hs, if_neg (show ¬ chkM m ≠ 0 from fun h => h hc)]
      by_cases hk : m.1 = sNone
      · have hd : differ v.1 m.1 = false := decide_eq_false (fun h => h.2.2 hk)
        rw [hd]
        simp only [hk, if_true, Bool.false_eq_true, if_false, ne_eq, not_true]
        exact refScan_scan r v p h
      · rw [if_neg hk]
        rcases h with ⟨h1, h2⟩ | ⟨h1, h2, h3⟩
        · have hd : differ v.1 m.1 = false := decide_eq_false (fun h => h.2.1 h1)
          rw [hd, if_neg (show ¬ ((if false = true then (13 : Int) else 0) ≠ 0) by decide), if_neg hk, if_neg (show ¬ (p ≠ [] ∧ p ≠ m.1) from fun h => h.1 h2)]
          refine refScan_scan r m m.1 (.inr ⟨rfl, fun h0 => ?_, hk⟩)
          simp only [chkM, h0, chk] at hc
          revert hc
          simp [known]
        · by_cases hpk : p = m.1
          · have hd : differ v.1 m.1 = false := decide_eq_false (fun h => h.1 (h1.trans hpk))
            rw [hd, if_neg (show ¬ ((if false = true then (13 : Int) else 0) ≠ 0) by decide), if_neg hk, if_neg (show ¬ (p ≠ [] ∧ p ≠ m.1) from fun h => h.2 hpk)]
            exact refScan_scan r m m.1 (.inr ⟨rfl, hpk ▸ h2, hk⟩)
          · have hd : differ v.1 m.1 = true := decide_eq_true ⟨fun h => hpk (h1.symm.trans h), fun h => h3 (h1.symm.trans h), hk⟩
            rw [hd, if_pos (show (if true = true then (13 : Int) else 0) ≠ 0 by decide), if_neg hk, if_pos (show p ≠ [] ∧ p ≠ m.1 from ⟨h2, hpk⟩)]
            rfl
    · have hs : stepE v m = chkM m := by
        simp only [stepE, firstNZ]
        rw [if_neg hc]
      rw [hs, if_pos hc, if_pos hc]
theorem scan_marksE {l : List Mk} (hn : ¬ 256 < l.length) : scan (sNone, 0, []) l = marksE l := by
  rw [marksE, if_neg hn]
  exact refScan_scan l _ _ (.inl ⟨rfl, rfl⟩)
/-- Marks without an error: each one is a mark, and no two differ in kind. -/
theorem refScan_ok : ∀ (l : List Mk) (p : List UInt8), refScan p l = 0 → ∀ a ∈ l, chkM a = 0 ∧ (p ≠ [] → differ p a.1 = false) ∧ ∀ b ∈ l, differ a.1 b.1 = false
  | [], _, _, _, ha => by cases ha
  | m :: r, p, h, a, ha => by
    rw [refScan] at h
    by_cases hc : chkM m = 0
    · rw [if_neg (fun h => h hc)] at h
      by_cases hk : m.1 = sNone
      · rw [if_pos hk] at h
        have ih := refScan_ok r p h
        have d1 : ∀ k, differ m.1 k = false := fun k => decide_eq_false (fun h => h.2.1 hk)
        have d2 : ∀ k, differ k m.1 = false := fun k => decide_eq_false (fun h => h.2.2 hk)
        rcases List.mem_cons.1 ha with rfl | ha
        · exact ⟨hc, fun _ => d2 _, fun b _ => d1 _⟩
        · obtain ⟨i1, i2, i3⟩ := ih a ha
          refine ⟨i1, i2, fun b hb => ?_⟩
          rcases List.mem_cons.1 hb with rfl | hb
          · exact d2 _
          · exact i3 b hb
      · rw [if_neg hk] at h
        have hm0 : m.1 ≠ [] := fun h0 => by
          simp only [chkM, h0, chk] at hc
          revert hc
          simp [known]
        by_cases hp : p ≠ [] ∧ p ≠ m.1
        · rw [if_pos hp] at h; exact absurd h (by decide)
        · rw [if_neg hp] at h
          have ih := refScan_ok r m.1 h
          have hpm : p ≠ [] → p = m.1 := fun h1 => Decidable.byContradiction fun h2 => hp ⟨h1, h2⟩
          have d0 : differ m.1 m.1 = false := decide_eq_false (fun h => h.1 rfl)
          have sym : ∀ x y, differ x y = false → differ y x = false := fun x y h => decide_eq_false fun h2 => of_decide_eq_false h ⟨fun e => h2.1 e.symm, h2.2.2, h2.2.1⟩
          rcases List.mem_cons.1 ha with rfl | ha
          · refine ⟨hc, fun h1 => by rw [hpm h1]; exact d0, fun b hb => ?_⟩
            rcases List.mem_cons.1 hb with rfl | hb
            · exact d0
            · exact (ih b hb).2.1 hm0
          · obtain ⟨i1, i2, i3⟩ := ih a ha
            refine ⟨i1, fun h1 => by rw [hpm h1]; exact i2 hm0, fun b hb => ?_⟩
            rcases List.mem_cons.1 hb with rfl | hb
            · exact sym _ _ (i2 hm0)
            · exact i3 b hb
    · rw [if_pos hc] at h; exact absurd h hc

/-- What the reference's ranks call. -/
structure CRef (M : Mach) (l : List Mk) : Prop where
  ft : M.FT = FT
  c39 : ∀ i j h, i < l.length → j < l.length → M.ext 39 [am l[i]!, am l[j]!] h = some ⟨.int .i64 (cmpM l[i]! l[j]!), h, []⟩
theorem count_take {l : List Mk} {P : Mk → Bool} {k : Nat} (h : k < l.length) : (l.take (k + 1)).countP P = (l.take k).countP P + if P l[k]! then 1 else 0 := by
  rw [List.take_succ_eq_append_getElem h, List.countP_append, getElem!_pos l k h]
  simp [List.countP_cons]

theorem loop50_0 {l : List Mk} (C : CRef M l) (cap : Option Nat) (hn : l.length < 1000000) (i : Nat) (hi : i < l.length) (a2 : AV) (hp : Heap) (wr : List Nat) {Q : Ex → StW → Prop} : ∀ (r k : Nat) (lo : List (Nat × AV)), k + r = l.length →
    (∀ a5 lo, Q (.exit 2) ⟨⟨[.vs (arr cm l) l.length cap, .nilsl, a2, .int .i64 i, .int .i64 ((l.countP fun x => decide (cmpM x l[i]! < 0) : Nat) + 1 : Int), a5], lo, hp, []⟩, wr⟩) →
    W M (.loop b50_0) ⟨⟨[.vs (arr cm l) l.length cap, .nilsl, a2, .int .i64 i, .int .i64 (((l.take k).countP fun x => decide (cmpM x l[i]! < 0) : Nat) + 1 : Int), .int .i64 k], lo, hp, []⟩, wr⟩ Q := by
  intro r
  induction r with
  | zero =>
    intro k lo hk hQ
    obtain rfl : k = l.length := by omega
    refine W.loop ?_
    unfold b50_0
    repeat' first | apply W.seq | apply SQn | apply W.region | apply WO.nil | apply W.block | apply W.ret | apply W.exit | apply W.skip | apply SQr | apply SQe | apply BQn | apply BQr | apply BQe | (apply BQo; exact rfl) | apply LQe | apply LQr | (apply W.drawro; exact rfl) | apply W.draw | apply WD.nil | (apply WD.gT; exact rfl) | (apply WD.gF; exact rfl) | (apply WD.sT; exact rfl) | (apply WD.sF; exact rfl) | (apply WD.sU; exact rfl) | (apply WD.pure1; exact rfl) | (apply WD.load1; exact rfl; exact rfl; exact rfl) | (apply WD.clb; exact rfl; exact rfl; exact rfl; exact rfl; all_goals first | (intro h; exact absurd h (by decide)) | intro _) | (apply WD.cl0; exact rfl; exact rfl; exact rfl; exact rfl) | (apply WD.cl1; exact rfl; exact rfl; exact rfl; exact rfl) | (apply W.condT; exact rfl) | (apply W.condF; exact rfl) | (apply W.cond; exact rfl; all_goals intro _) | (apply WO.lss; exact rfl; exact rfl; all_goals first | (intro _; exfalso; omega) | intro _) | (apply WO.add; exact rfl; exact rfl; omega) | (apply WO.iav; exact rfl; exact rfl; omega) | (apply WO.ias; exact rfl; exact rfl; omega) | (apply WO.lda; exact rfl; exact fun _ => rfl; (first | omega | (simp only [List.length_set]; omega) | (simp; omega)); decide; exact rfl; case ia => infer_instance) | (apply WO.lsa; exact rfl; (first | exact rfl | assumption | exact at_new | (apply at_old; assumption) | (apply at_put; first | assumption | (simp only [put_length]; assumption))); exact fun _ => rfl; (first | omega | (simp only [List.length_set]; omega) | (simp; omega)); decide; exact rfl; case ia => infer_instance) | (apply WO.clb; exact rfl; exact rfl; exact rfl; all_goals first | (intro h; exact absurd h (by decide)) | intro _) | (apply WO.cll; exact rfl; exact rfl; exact rfl) | (apply WO.hlv; exact rfl; exact rfl; exact rfl) | (apply WO.hpv; exact rfl; exact rfl; exact rfl) | (apply WO.hnv; exact rfl; exact rfl; exact rfl) | (apply WO.pl; exact rfl; exact rfl) | (apply WO.pp; exact rfl; exact rfl)
    rw [List.take_length]
    exact hQ _ _
  | succ r ih =>
    intro k lo hk hQ
    have f1 : ((i : Int)).toNat = i := by omega
    have f2 : ((k : Int)).toNat = k := by omega
    have hc := count_take (l := l) (P := fun x => decide (cmpM x l[i]! < 0)) (k := k) (by omega)
    have hle : (l.take k).countP (fun x => decide (cmpM x l[i]! < 0)) ≤ l.length := Nat.le_trans List.countP_le_length (by simp; omega)
    have q39 : ∀ h, M.ext 39 [am l[((k : Int)).toNat]!, am l[((i : Int)).toNat]!] h = some ⟨.int .i64 (cmpM l[k]! l[i]!), h, []⟩ := fun h => by rw [f1, f2]; exact C.c39 k i h (by omega) hi
    refine W.loop ?_
    by_cases hd : cmpM l[k]! l[i]! < 0
    · rw [if_pos (decide_eq_true hd)] at hc
      have ih' := fun lo => ih (k + 1) lo (by omega) hQ
      rw [hc] at ih'
      unfold b50_0
      repeat' first | apply W.seq | apply SQn | apply W.region | apply WO.nil | apply W.block | apply W.ret | apply W.exit | apply W.skip | apply SQr | apply SQe | apply BQn | apply BQr | apply BQe | (apply BQo; exact rfl) | apply LQe | apply LQr | (apply W.drawro; exact rfl) | apply W.draw | apply WD.nil | (apply WD.gT; exact rfl) | (apply WD.gF; exact rfl) | (apply WD.sT; exact rfl) | (apply WD.sF; exact rfl) | (apply WD.sU; exact rfl) | (apply WD.pure1; exact rfl) | (apply WD.load1; exact rfl; exact rfl; exact rfl) | (apply WD.clb; exact rfl; exact rfl; exact rfl; exact rfl; all_goals first | (intro h; exact absurd h (by decide)) | intro _) | (apply WD.cl0; exact rfl; exact rfl; exact rfl; exact rfl) | (apply WD.cl1; exact rfl; exact rfl; exact rfl; exact rfl) | (apply W.condT; exact rfl) | (apply W.condF; exact rfl) | (apply W.cond; exact rfl; all_goals intro _) | (apply WO.lss; exact rfl; exact rfl; all_goals first | (intro _; exfalso; omega) | intro _) | (apply WO.add; exact rfl; exact rfl; omega) | (apply WO.cll; exact rfl; exact rfl; first | exact q39 _) | (apply WD.cl0; exact rfl; exact rfl; exact rfl; first | exact q39 _) | (apply WO.iav; exact rfl; exact rfl; omega) | (apply WO.ias; exact rfl; exact rfl; omega) | (apply WO.lda; exact rfl; exact fun _ => rfl; (first | omega | (simp only [List.length_set]; omega) | (simp; omega)); decide; exact rfl; case ia => infer_instance) | (apply WO.lsa; exact rfl; (first | exact rfl | assumption | exact at_new | (apply at_old; assumption) | (apply at_put; first | assumption | (simp only [put_length]; assumption))); exact fun _ => rfl; (first | omega | (simp only [List.length_set]; omega) | (simp; omega)); decide; exact rfl; case ia => infer_instance) | (apply WO.clb; exact rfl; exact rfl; exact rfl; all_goals first | (intro h; exact absurd h (by decide)) | intro _) | (apply WO.cll; exact rfl; exact rfl; exact rfl) | (apply WO.hlv; exact rfl; exact rfl; exact rfl) | (apply WO.hpv; exact rfl; exact rfl; exact rfl) | (apply WO.hnv; exact rfl; exact rfl; exact rfl) | (apply WO.pl; exact rfl; exact rfl) | (apply WO.pp; exact rfl; exact rfl)
      exact LQn (ih' _)
    · rw [if_neg (by simpa using hd)] at hc
      have ih' := fun lo => ih (k + 1) lo (by omega) hQ
      rw [hc] at ih'
      unfold b50_0
      repeat' first | apply W.seq | apply SQn | apply W.region | apply WO.nil | apply W.block | apply W.ret | apply W.exit | apply W.skip | apply SQr | apply SQe | apply BQn | apply BQr | apply BQe | (apply BQo; exact rfl) | apply LQe | apply LQr | (apply W.drawro; exact rfl) | apply W.draw | apply WD.nil | (apply WD.gT; exact rfl) | (apply WD.gF; exact rfl) | (apply WD.sT; exact rfl) | (apply WD.sF; exact rfl) | (apply WD.sU; exact rfl) | (apply WD.pure1; exact rfl) | (apply WD.load1; exact rfl; exact rfl; exact rfl) | (apply WD.clb; exact rfl; exact rfl; exact rfl; exact rfl; all_goals first | (intro h; exact absurd h (by decide)) | intro _) | (apply WD.cl0; exact rfl; exact rfl; exact rfl; exact rfl) | (apply WD.cl1; exact rfl; exact rfl; exact rfl; exact rfl) | (apply W.condT; exact rfl) | (apply W.condF; exact rfl) | (apply W.cond; exact rfl; all_goals intro _) | (apply WO.lss; exact rfl; exact rfl; all_goals first | (intro _; exfalso; omega) | intro _) | (apply WO.add; exact rfl; exact rfl; omega) | (apply WO.cll; exact rfl; exact rfl; first | exact q39 _) | (apply WD.cl0; exact rfl; exact rfl; exact rfl; first | exact q39 _) | (apply WO.iav; exact rfl; exact rfl; omega) | (apply WO.ias; exact rfl; exact rfl; omega) | (apply WO.lda; exact rfl; exact fun _ => rfl; (first | omega | (simp only [List.length_set]; omega) | (simp; omega)); decide; exact rfl; case ia => infer_instance) | (apply WO.lsa; exact rfl; (first | exact rfl | assumption | exact at_new | (apply at_old; assumption) | (apply at_put; first | assumption | (simp only [put_length]; assumption))); exact fun _ => rfl; (first | omega | (simp only [List.length_set]; omega) | (simp; omega)); decide; exact rfl; case ia => infer_instance) | (apply WO.clb; exact rfl; exact rfl; exact rfl; all_goals first | (intro h; exact absurd h (by decide)) | intro _) | (apply WO.cll; exact rfl; exact rfl; exact rfl) | (apply WO.hlv; exact rfl; exact rfl; exact rfl) | (apply WO.hpv; exact rfl; exact rfl; exact rfl) | (apply WO.hnv; exact rfl; exact rfl; exact rfl) | (apply WO.pl; exact rfl; exact rfl) | (apply WO.pp; exact rfl; exact rfl)
      exact LQn (ih' _)
/-- The ranks so far. -/
def OutS (hp : Heap) (o : AV) (acc : List Int) : Prop := (acc = [] ∧ o = .nilsl) ∨ ∃ c, acc ≠ [] ∧ o = .sl c 0 acc.length 1 none ∧ hp.at c = some (.cells (ints acc) 3)
theorem OutS.push {t : Nat} {M : Mach} {x : Int} {l : List IOper} {pe : List AV} {lo : List (Nat × AV)} {hp : Heap} {df wr : List Nat} {a b : IOpd} {o : AV} {acc : List Int} {Q : StW → Prop} (h : OutS hp o acc) (ha : (St.mk pe lo (hp ++ [some (.cells [.int .i64 x] 3)]) df).opd a = some o) (hb : (St.mk pe lo (hp ++ [some (.cells [.int .i64 x] 3)]) df).opd b = some (.sl hp.length 0 1 1 (some 1)))
    (hn : acc.length < 1000000) (hQ : ∀ (H : Heap) (w' : List Nat) o', OutS H o' (acc ++ [x]) → WO M l ⟨⟨pe, (t, o') :: lo, H, df⟩, w'⟩ Q) : WO M (⟨.l t, .append 3 1 8 a b, none⟩ :: l) ⟨⟨pe, lo, hp ++ [some (.cells [.int .i64 x] 3)], df⟩, wr⟩ Q := by
  rcases h with ⟨rfl, rfl⟩ | ⟨c, _, rfl, hc⟩
  · have hs : sliceCells (hp ++ [some (.cells [.int .i64 x] 3)]) (.sl hp.length 0 1 1 (some 1)) = some ([.int .i64 x], 1) := by
      simp [sliceCells, at_new, cut]
    refine WO.apn ha hb hs ⟨rfl, by decide, rfl⟩ ⟨by decide, by decide⟩ (hQ _ _ _ (.inr ⟨_, by simp, rfl, at_new⟩))
  · refine WO.app1 ha hb rfl hc ((arr_length (f := fun x : Int => [AV.int .i64 x]) (esz := 1) (fun _ => rfl) acc).trans (Nat.mul_one _)) (.inl rfl) hn (fun H w' h1 h2 _ => hQ H w' _ (.inr ⟨hp.length + 1, by simp, by simp, ?_⟩))
    rw [h2]
    simp [ints, arr]

theorem loop50_1 {l : List Mk} (C : CRef M l) (cap : Option Nat) (hn : l.length < 1000000) {Q : Ex → StW → Prop} : ∀ (r i : Nat) (o a4 a5 : AV) (hp : Heap) (lo : List (Nat × AV)) (wr : List Nat), i + r = l.length → OutS hp o ((l.take i).map (rankM l)) →
    (∀ o hp a3 a4 a5 lo wr, OutS hp o (l.map (rankM l)) → Q (.exit 0) ⟨⟨[.vs (arr cm l) l.length cap, .nilsl, o, a3, a4, a5], lo, hp, []⟩, wr⟩) →
    W M (.loop b50_1) ⟨⟨[.vs (arr cm l) l.length cap, .nilsl, o, .int .i64 i, a4, a5], lo, hp, []⟩, wr⟩ Q := by
  intro r
  induction r with
  | zero =>
    intro i o a4 a5 hp lo wr hi ho hQ
    obtain rfl : i = l.length := by omega
    refine W.loop ?_
    unfold b50_1
    repeat' first | apply W.seq | apply SQn | apply W.region | apply WO.nil | apply W.block | apply W.ret | apply W.exit | apply W.skip | apply SQr | apply SQe | apply BQn | apply BQr | apply BQe | (apply BQo; exact rfl) | apply LQe | apply LQr | (apply W.condT; exact rfl) | (apply W.condF; exact rfl) | (apply W.cond; exact rfl; all_goals intro _) | (apply WO.lss; exact rfl; exact rfl; all_goals first | (intro _; exfalso; omega) | intro _) | (apply WO.neq; exact rfl; exact rfl; all_goals first | (intro _; exfalso; omega) | intro _) | (apply WO.add; exact rfl; exact rfl; omega) | (apply WO.iav; exact rfl; exact rfl; omega) | (apply WO.ias; exact rfl; exact rfl; omega) | (apply WO.lda; exact rfl; exact fun _ => rfl; (first | omega | (simp only [List.length_set]; omega) | (simp; omega)); decide; exact rfl; case ia => infer_instance) | (apply WO.lsa; exact rfl; (first | exact rfl | assumption | exact at_new | (apply at_old; assumption) | (apply at_put; first | assumption | (simp only [put_length]; assumption))); exact fun _ => rfl; (first | omega | (simp only [List.length_set]; omega) | (simp; omega)); decide; exact rfl; case ia => infer_instance) | (apply WO.ldf; exact rfl; exact fun _ => rfl; (first | omega | (simp only [List.length_set]; omega) | (simp; omega)); decide; exact rfl; case ia => infer_instance) | (apply WO.lsf; exact rfl; (first | exact rfl | assumption | exact at_new | (apply at_old; assumption) | (apply at_put; first | assumption | (simp only [put_length]; assumption))); exact fun _ => rfl; (first | omega | (simp only [List.length_set]; omega) | (simp; omega)); decide; exact rfl; case ia => infer_instance) | (apply WO.sneq; exact rfl; exact rfl; all_goals first | (intro h; exact absurd h (by decide)) | (intro h; exact absurd rfl h) | (intro h; contradiction) | intro _) | (apply WO.hlv; exact rfl; exact rfl; exact rfl) | (apply WO.hpv; exact rfl; exact rfl; exact rfl) | (apply WO.hnv; exact rfl; exact rfl; exact rfl) | (apply WO.pl; exact rfl; exact rfl) | (apply WO.pp; exact rfl; exact rfl)
    exact hQ _ _ _ _ _ _ _ (by rw [List.take_length] at ho; exact ho)
  | succ r ih =>
    intro i o a4 a5 hp lo wr hi ho hQ
    have f1 : ((i : Int)).toNat = i := by omega
    have e : (l.take (i + 1)).map (rankM l) = (l.take i).map (rankM l) ++ [rankM l l[i]!] := by
      rw [List.take_succ_eq_append_getElem (by omega), List.map_append, getElem!_pos l i (by omega)]
      rfl
    have hlen : ((l.take i).map (rankM l)).length < 1000000 := by simp; omega
    refine W.loop ?_
    unfold b50_1
    by_cases hk : l[((i : Int)).toNat]!.1 = sNone
    · have hr : rankM l l[i]! = 0 := by rw [rankM, ← f1, if_pos hk]
      rw [hr] at e
      repeat' first | apply W.seq | apply SQn | apply W.region | apply WO.nil | apply W.block | apply W.ret | apply W.exit | apply W.skip | apply SQr | apply SQe | apply BQn | apply BQr | apply BQe | (apply BQo; exact rfl) | apply LQe | apply LQr | (apply W.condT; exact rfl) | (apply W.condF; exact rfl) | (apply W.cond; exact rfl; all_goals intro _) | (apply WO.lss; exact rfl; exact rfl; all_goals first | (intro _; exfalso; omega) | intro _) | (apply WO.neq; exact rfl; exact rfl; all_goals first | (intro _; exfalso; omega) | intro _) | (apply WO.add; exact rfl; exact rfl; omega) | (refine OutS.push ho rfl rfl hlen (fun H w' o' ho' => ?_)) | (apply WO.iav; exact rfl; exact rfl; omega) | (apply WO.ias; exact rfl; exact rfl; omega) | (apply WO.lda; exact rfl; exact fun _ => rfl; (first | omega | (simp only [List.length_set]; omega) | (simp; omega)); decide; exact rfl; case ia => infer_instance) | (apply WO.lsa; exact rfl; (first | exact rfl | assumption | exact at_new | (apply at_old; assumption) | (apply at_put; first | assumption | (simp only [put_length]; assumption))); exact fun _ => rfl; (first | omega | (simp only [List.length_set]; omega) | (simp; omega)); decide; exact rfl; case ia => infer_instance) | (apply WO.ldf; exact rfl; exact fun _ => rfl; (first | omega | (simp only [List.length_set]; omega) | (simp; omega)); decide; exact rfl; case ia => infer_instance) | (apply WO.lsf; exact rfl; (first | exact rfl | assumption | exact at_new | (apply at_old; assumption) | (apply at_put; first | assumption | (simp only [put_length]; assumption))); exact fun _ => rfl; (first | omega | (simp only [List.length_set]; omega) | (simp; omega)); decide; exact rfl; case ia => infer_instance) | (apply WO.sneq; exact rfl; exact rfl; all_goals first | (intro h; exact absurd h (by decide)) | (intro h; exact absurd rfl h) | (intro h; contradiction) | intro _) | (apply WO.hlv; exact rfl; exact rfl; exact rfl) | (apply WO.hpv; exact rfl; exact rfl; exact rfl) | (apply WO.hnv; exact rfl; exact rfl; exact rfl) | (apply WO.pl; exact rfl; exact rfl) | (apply WO.pp; exact rfl; exact rfl)
      refine LQn ?_
      exact ih (i + 1) _ _ _ _ _ _ (by omega) (by rw [e]; exact ho') hQ
    · have hr : rankM l l[i]! = ((l.countP fun x => decide (cmpM x l[i]! < 0) : Nat) : Int) + 1 := by rw [rankM, ← f1, if_neg hk]
      rw [hr] at e
      repeat' first | apply W.seq | apply SQn | apply W.region | apply WO.nil | apply W.block | apply W.ret | apply W.exit | apply W.skip | apply SQr | apply SQe | apply BQn | apply BQr | apply BQe | (apply BQo; exact rfl) | apply LQe | apply LQr | (apply W.condT; exact rfl) | (apply W.condF; exact rfl) | (apply W.cond; exact rfl; all_goals intro _) | (apply WO.lss; exact rfl; exact rfl; all_goals first | (intro _; exfalso; omega) | intro _) | (apply WO.neq; exact rfl; exact rfl; all_goals first | (intro _; exfalso; omega) | intro _) | (apply WO.add; exact rfl; exact rfl; omega) | (apply WO.iav; exact rfl; exact rfl; omega) | (apply WO.ias; exact rfl; exact rfl; omega) | (apply WO.lda; exact rfl; exact fun _ => rfl; (first | omega | (simp only [List.length_set]; omega) | (simp; omega)); decide; exact rfl; case ia => infer_instance) | (apply WO.lsa; exact rfl; (first | exact rfl | assumption | exact at_new | (apply at_old; assumption) | (apply at_put; first | assumption | (simp only [put_length]; assumption))); exact fun _ => rfl; (first | omega | (simp only [List.length_set]; omega) | (simp; omega)); decide; exact rfl; case ia => infer_instance) | (apply WO.ldf; exact rfl; exact fun _ => rfl; (first | omega | (simp only [List.length_set]; omega) | (simp; omega)); decide; exact rfl; case ia => infer_instance) | (apply WO.lsf; exact rfl; (first | exact rfl | assumption | exact at_new | (apply at_old; assumption) | (apply at_put; first | assumption | (simp only [put_length]; assumption))); exact fun _ => rfl; (first | omega | (simp only [List.length_set]; omega) | (simp; omega)); decide; exact rfl; case ia => infer_instance) | (apply WO.sneq; exact rfl; exact rfl; all_goals first | (intro h; exact absurd h (by decide)) | (intro h; exact absurd rfl h) | (intro h; contradiction) | intro _) | (apply WO.hlv; exact rfl; exact rfl; exact rfl) | (apply WO.hpv; exact rfl; exact rfl; exact rfl) | (apply WO.hnv; exact rfl; exact rfl; exact rfl) | (apply WO.pl; exact rfl; exact rfl) | (apply WO.pp; exact rfl; exact rfl)
      refine loop50_0 C cap hn i (by omega) _ _ _ l.length 0 _ (by omega) (fun a5 lo => ?_)
      repeat' first | apply W.seq | apply SQn | apply W.region | apply WO.nil | apply W.block | apply W.ret | apply W.exit | apply W.skip | apply SQr | apply SQe | apply BQn | apply BQr | apply BQe | (apply BQo; exact rfl) | apply LQe | apply LQr | (apply W.condT; exact rfl) | (apply W.condF; exact rfl) | (apply W.cond; exact rfl; all_goals intro _) | (apply WO.lss; exact rfl; exact rfl; all_goals first | (intro _; exfalso; omega) | intro _) | (apply WO.neq; exact rfl; exact rfl; all_goals first | (intro _; exfalso; omega) | intro _) | (apply WO.add; exact rfl; exact rfl; omega) | (refine OutS.push ho rfl rfl hlen (fun H w' o' ho' => ?_)) | (apply WO.iav; exact rfl; exact rfl; omega) | (apply WO.ias; exact rfl; exact rfl; omega) | (apply WO.lda; exact rfl; exact fun _ => rfl; (first | omega | (simp only [List.length_set]; omega) | (simp; omega)); decide; exact rfl; case ia => infer_instance) | (apply WO.lsa; exact rfl; (first | exact rfl | assumption | exact at_new | (apply at_old; assumption) | (apply at_put; first | assumption | (simp only [put_length]; assumption))); exact fun _ => rfl; (first | omega | (simp only [List.length_set]; omega) | (simp; omega)); decide; exact rfl; case ia => infer_instance) | (apply WO.ldf; exact rfl; exact fun _ => rfl; (first | omega | (simp only [List.length_set]; omega) | (simp; omega)); decide; exact rfl; case ia => infer_instance) | (apply WO.lsf; exact rfl; (first | exact rfl | assumption | exact at_new | (apply at_old; assumption) | (apply at_put; first | assumption | (simp only [put_length]; assumption))); exact fun _ => rfl; (first | omega | (simp only [List.length_set]; omega) | (simp; omega)); decide; exact rfl; case ia => infer_instance) | (apply WO.sneq; exact rfl; exact rfl; all_goals first | (intro h; exact absurd h (by decide)) | (intro h; exact absurd rfl h) | (intro h; contradiction) | intro _) | (apply WO.hlv; exact rfl; exact rfl; exact rfl) | (apply WO.hpv; exact rfl; exact rfl; exact rfl) | (apply WO.hnv; exact rfl; exact rfl; exact rfl) | (apply WO.pl; exact rfl; exact rfl) | (apply WO.pp; exact rfl; exact rfl)
      refine LQn ?_
      exact ih (i + 1) _ _ _ _ _ _ (by omega) (by rw [e]; exact ho') hQ
theorem w50 {l : List Mk} (C : CRef M l) (cap : Option Nat) (hn : l.length < 1000000) : ∃ v hh, OutS hh v (l.map (rankM l)) ∧ Run M 50 [.vs (arr cm l) l.length cap] [] ⟨v, hh, []⟩ := by
  refine run_ofE (P := fun v hh => OutS hh v (l.map (rankM l))) (by rw [C.ft]; exact ft50) (by simp) ?_
  unfold b50
  simp only [List.map_cons, List.map_nil, List.getElem?_cons_zero, List.getElem?_cons_succ, List.getElem?_nil, Option.getD_some, Option.getD_none]
  repeat' first | apply W.seq | apply SQn | apply W.region | apply WO.nil | apply W.block | apply W.ret | apply W.exit | apply W.skip | apply SQr | apply SQe | apply BQn | apply BQr | apply BQe | (apply BQo; exact rfl) | apply LQe | apply LQr | (apply W.condT; exact rfl) | (apply W.condF; exact rfl) | (apply W.cond; exact rfl; all_goals intro _) | (apply WO.pl; exact rfl; exact rfl) | (apply WO.pp; exact rfl; exact rfl)
  refine loop50_1 C cap hn l.length 0 _ _ _ _ _ _ (by omega) (.inl ⟨rfl, rfl⟩) (fun o hp a3 a4 a5 lo wr ho => ?_)
  repeat' first | apply W.seq | apply SQn | apply W.region | apply WO.nil | apply W.block | apply W.ret | apply W.exit | apply W.skip | apply SQr | apply SQe | apply BQn | apply BQr | apply BQe | (apply BQo; exact rfl) | apply LQe | apply LQr | (apply W.condT; exact rfl) | (apply W.condF; exact rfl) | (apply W.cond; exact rfl; all_goals intro _) | (apply WO.pl; exact rfl; exact rfl) | (apply WO.pp; exact rfl; exact rfl)
  refine ⟨.inr rfl, rfl, _, rfl, ?_⟩
  rcases ho with ⟨h1, rfl⟩ | ⟨c, h0, rfl, h2⟩
  · exact .inl ⟨h1, rfl⟩
  · refine .inr ⟨c, h0, rfl, ?_⟩
    rw [if_neg (by simp [tupA, AV.top])]
    exact h2
end Go.Ab.Ch1


/-
  Own work: mark.Ranks whole.
-/
namespace Go.Ab.Ch1
variable {M : Mach} {cap : Option Nat}

abbrev vNone : Mk := (sNone, 0, [])

/-- Nothing to sort. -/
theorem r231nil (C : CPq M) (g : AV) (h : Heap) : CT M (fnM 231) [.vs [] 0 none, .int .i64 0, .int .i64 0, g] h ⟨.tup [], h, []⟩ := by
  refine CT.run (C.n231 _ _) (run_same (by rw [C.ft]; exact ft231) (by simp) ?_)
  unfold b231
  simp only [List.nil_append, List.append_nil]
  simp only [List.map_cons, List.map_nil, List.getElem?_cons_zero, List.getElem?_cons_succ, List.getElem?_nil, Option.getD_some, Option.getD_none]
  repeat' first | apply W.seq | apply SQn | apply W.region | apply WO.nil | apply W.block | apply W.ret | apply W.exit | apply W.skip | apply SQr | apply SQe | apply BQn | apply BQr | apply BQe | (apply BQo; exact rfl) | apply LQe | apply LQr | (apply W.condT; exact rfl) | (apply W.condF; exact rfl) | (apply W.cond; exact rfl; all_goals intro _) | (apply WO.lss; exact rfl; exact rfl; all_goals first | (intro _; exfalso; omega) | intro _) | (apply WO.add; exact rfl; exact rfl; omega) | (apply WO.pl; exact rfl; exact rfl) | (apply WO.pp; exact rfl; exact rfl)
  refine W.loop ?_
  unfold b231_1
  repeat' first | apply W.seq | apply SQn | apply W.region | apply WO.nil | apply W.block | apply W.ret | apply W.exit | apply W.skip | apply SQr | apply SQe | apply BQn | apply BQr | apply BQe | (apply BQo; exact rfl) | apply LQe | apply LQr | (apply W.condT; exact rfl) | (apply W.condF; exact rfl) | (apply W.cond; exact rfl; all_goals intro _) | (apply WO.lss; exact rfl; exact rfl; all_goals first | (intro _; exfalso; omega) | intro _) | (apply WO.add; exact rfl; exact rfl; omega) | (apply WO.pl; exact rfl; exact rfl) | (apply WO.pp; exact rfl; exact rfl)
  exact ⟨.inl rfl, rfl, rfl, rfl, _, rfl, rfl⟩
theorem r190nil (C : CPq M) (g : AV) (r : Int) (h : Heap) : CT M (fnM 190) [.vs [] 0 none, .int .i64 0, .int .i64 0, .int .i64 r, g] h ⟨.tup [], h, []⟩ := by
  have hcc := r231nil C g h
  refine CT.run (C.n190 _ _) (run_same (by rw [C.ft]; exact ft190) (by simp) ?_)
  unfold b190
  simp only [List.nil_append, List.append_nil]
  simp only [List.map_cons, List.map_nil, List.getElem?_cons_zero, List.getElem?_cons_succ, List.getElem?_nil, Option.getD_some, Option.getD_none]
  repeat' first | apply W.seq | apply SQn | apply W.region | apply WO.nil | apply W.block | apply W.ret | apply W.exit | apply W.skip | apply SQr | apply SQe | apply BQn | apply BQr | apply BQe | (apply BQo; exact rfl) | apply LQe | apply LQr | (apply W.drawro; exact rfl) | apply W.draw | apply WD.nil | (apply WD.gT; exact rfl) | (apply WD.gF; exact rfl) | (apply WD.sT; exact rfl) | (apply WD.sF; exact rfl) | (apply WD.sU; exact rfl) | (apply WD.pure1; exact rfl) | (apply WD.load1; exact rfl; exact rfl; exact rfl) | (apply WD.clb; exact rfl; exact rfl; exact rfl; exact rfl; all_goals first | (intro h; exact absurd h (by decide)) | intro _) | (apply WD.cl0; exact rfl; exact rfl; exact rfl; exact rfl) | (apply WD.cl1; exact rfl; exact rfl; exact rfl; exact rfl) | (apply W.condT; exact rfl) | (apply W.condF; exact rfl) | (apply W.cond; exact rfl; all_goals intro _) | (apply WO.gT; exact rfl) | (apply WO.gF; exact rfl) | (apply WO.sT; exact rfl) | (apply WO.sF; exact rfl) | (apply WO.sU; exact rfl) | (apply WO.lss; exact rfl; exact rfl; all_goals first | (intro _; exfalso; omega) | intro _) | (apply WO.leq; exact rfl; exact rfl; all_goals first | (intro _; exfalso; omega) | intro _) | (apply WO.gtr; exact rfl; exact rfl; all_goals first | (intro _; exfalso; omega) | intro _) | (apply WO.geq; exact rfl; exact rfl; all_goals first | (intro _; exfalso; omega) | intro _) | (apply WO.eql; exact rfl; exact rfl; all_goals first | (intro _; exfalso; omega) | intro _) | (apply WO.pkT; exact rfl; exact rfl) | (apply WO.pkF; exact rfl; exact rfl) | (apply WO.add; exact rfl; exact rfl; omega) | (apply WO.sub; exact rfl; exact rfl; omega) | (apply WO.quop; exact rfl; exact rfl; omega; omega; intro _ _) | (apply WO.quon; exact rfl; exact rfl; omega; omega; intro _ _) | (apply WO.quo; exact rfl; exact rfl; omega; omega) | (apply WO.iav; exact rfl; exact rfl; omega) | (apply WO.ias; exact rfl; exact rfl; omega) | (apply WO.lda; exact rfl; exact fun _ => rfl; (first | omega | (simp only [List.length_set]; omega) | (simp; omega)); decide; exact rfl; case ia => infer_instance) | (apply WO.lsa; exact rfl; (first | exact rfl | assumption | exact at_new | (apply at_old; assumption) | (apply at_put; first | assumption | (simp only [put_length]; assumption))); exact fun _ => rfl; (first | omega | (simp only [List.length_set]; omega) | (simp; omega)); decide; exact rfl; case ia => infer_instance) | (apply WO.seql; exact rfl; exact rfl; all_goals first | (intro h; exact absurd h (by decide)) | (intro h; exact absurd rfl h) | (intro h; contradiction) | intro _) | (apply WO.clb; exact rfl; exact rfl; exact rfl; all_goals first | (intro h; exact absurd h (by decide)) | intro _) | (apply WO.cll; exact rfl; exact rfl; exact rfl) | (apply WO.hlv; exact rfl; exact rfl; exact rfl) | (apply WO.hpv; exact rfl; exact rfl; exact rfl) | (apply WO.hnv; exact rfl; exact rfl; exact rfl) | (apply WO.pl; exact rfl; exact rfl) | (apply WO.pp; exact rfl; exact rfl)
  refine W.loop ?_
  unfold b190_0
  repeat' first | apply W.seq | apply SQn | apply W.region | apply WO.nil | apply W.block | apply W.ret | apply W.exit | apply W.skip | apply SQr | apply SQe | apply BQn | apply BQr | apply BQe | (apply BQo; exact rfl) | apply LQe | apply LQr | (apply W.drawro; exact rfl) | apply W.draw | apply WD.nil | (apply WD.gT; exact rfl) | (apply WD.gF; exact rfl) | (apply WD.sT; exact rfl) | (apply WD.sF; exact rfl) | (apply WD.sU; exact rfl) | (apply WD.pure1; exact rfl) | (apply WD.load1; exact rfl; exact rfl; exact rfl) | (apply WD.clb; exact rfl; exact rfl; exact rfl; exact rfl; all_goals first | (intro h; exact absurd h (by decide)) | intro _) | (apply WD.cl0; exact rfl; exact rfl; exact rfl; exact rfl) | (apply WD.cl1; exact rfl; exact rfl; exact rfl; exact rfl) | (apply W.condT; exact rfl) | (apply W.condF; exact rfl) | (apply W.cond; exact rfl; all_goals intro _) | (apply WO.gT; exact rfl) | (apply WO.gF; exact rfl) | (apply WO.sT; exact rfl) | (apply WO.sF; exact rfl) | (apply WO.sU; exact rfl) | (apply WO.lss; exact rfl; exact rfl; all_goals first | (intro _; exfalso; omega) | intro _) | (apply WO.leq; exact rfl; exact rfl; all_goals first | (intro _; exfalso; omega) | intro _) | (apply WO.gtr; exact rfl; exact rfl; all_goals first | (intro _; exfalso; omega) | intro _) | (apply WO.geq; exact rfl; exact rfl; all_goals first | (intro _; exfalso; omega) | intro _) | (apply WO.eql; exact rfl; exact rfl; all_goals first | (intro _; exfalso; omega) | intro _) | (apply WO.pkT; exact rfl; exact rfl) | (apply WO.pkF; exact rfl; exact rfl) | (apply WO.add; exact rfl; exact rfl; omega) | (apply WO.sub; exact rfl; exact rfl; omega) | (apply WO.quop; exact rfl; exact rfl; omega; omega; intro _ _) | (apply WO.quon; exact rfl; exact rfl; omega; omega; intro _ _) | (apply WO.quo; exact rfl; exact rfl; omega; omega) | (apply WO.ct; exact rfl; exact rfl; first | exact hcc) | (apply WO.ctn; exact rfl; exact rfl; first | exact hcc) | (apply WD.ct; exact rfl; exact rfl; exact rfl; first | exact hcc) | (apply WO.iav; exact rfl; exact rfl; omega) | (apply WO.ias; exact rfl; exact rfl; omega) | (apply WO.lda; exact rfl; exact fun _ => rfl; (first | omega | (simp only [List.length_set]; omega) | (simp; omega)); decide; exact rfl; case ia => infer_instance) | (apply WO.lsa; exact rfl; (first | exact rfl | assumption | exact at_new | (apply at_old; assumption) | (apply at_put; first | assumption | (simp only [put_length]; assumption))); exact fun _ => rfl; (first | omega | (simp only [List.length_set]; omega) | (simp; omega)); decide; exact rfl; case ia => infer_instance) | (apply WO.seql; exact rfl; exact rfl; all_goals first | (intro h; exact absurd h (by decide)) | (intro h; exact absurd rfl h) | (intro h; contradiction) | intro _) | (apply WO.clb; exact rfl; exact rfl; exact rfl; all_goals first | (intro h; exact absurd h (by decide)) | intro _) | (apply WO.cll; exact rfl; exact rfl; exact rfl) | (apply WO.hlv; exact rfl; exact rfl; exact rfl) | (apply WO.hpv; exact rfl; exact rfl; exact rfl) | (apply WO.hnv; exact rfl; exact rfl; exact rfl) | (apply WO.pl; exact rfl; exact rfl) | (apply WO.pp; exact rfl; exact rfl)
  exact ⟨.inr rfl, rfl, rfl, rfl, _, rfl, rfl⟩
theorem r131nil (C : CPq M) (g : AV) (h : Heap) : CT M (fnM 131) [.vs [] 0 none, g] h ⟨.tup [], h, []⟩ := by
  obtain ⟨r, hr, h191⟩ := r191 C 0 (by omega) h
  have hcc := r190nil C g r h
  refine CT.run (C.n131 _ _) (run_same (by rw [C.ft]; exact ft131) (by simp) ?_)
  unfold b131
  simp only [List.nil_append, List.append_nil]
  simp only [List.map_cons, List.map_nil, List.getElem?_cons_zero, List.getElem?_cons_succ, List.getElem?_nil, Option.getD_some, Option.getD_none]
  repeat' first | apply W.seq | apply SQn | apply W.region | apply WO.nil | apply W.block | apply W.ret | apply W.exit | apply W.skip | apply SQr | apply SQe | apply BQn | apply BQr | apply BQe | (apply BQo; exact rfl) | apply LQe | apply LQr | (apply W.condT; exact rfl) | (apply W.condF; exact rfl) | (apply W.cond; exact rfl; all_goals intro _) | (apply WO.cvu; exact rfl; omega) | (apply WO.ct; exact rfl; exact rfl; first | exact h191 | exact hcc) | (apply WO.ctn; exact rfl; exact rfl; first | exact h191 | exact hcc) | (apply WD.ct; exact rfl; exact rfl; exact rfl; first | exact h191 | exact hcc) | (apply WO.clb; exact rfl; exact rfl; exact rfl; all_goals first | (intro h; exact absurd h (by decide)) | intro _) | (apply WO.cll; exact rfl; exact rfl; exact rfl) | (apply WO.pl; exact rfl; exact rfl) | (apply WO.pp; exact rfl; exact rfl)
  exact ⟨.inl rfl, rfl, rfl, rfl, _, rfl, rfl⟩

theorem w49many (C : CRk M) (l : List Mk) (hn : 256 < l.length) (hl : l.length < 1000000) : Run M 49 [.vs (arr cm l) l.length cap] [] ⟨.tup [.nilsl, .int .i64 5], [], []⟩ := by
  refine run_of_W (by rw [C.pq.ft]; exact ft49) (by simp) ?_
  unfold b49
  simp only [List.map_cons, List.map_nil, List.getElem?_cons_zero, List.getElem?_cons_succ, List.getElem?_nil, Option.getD_some, Option.getD_none]
  repeat' first | apply W.seq | apply SQn | apply W.region | apply WO.nil | apply W.block | apply W.ret | apply W.exit | apply W.skip | apply SQr | apply SQe | apply BQn | apply BQr | apply BQe | (apply BQo; exact rfl) | apply LQe | apply LQr | (apply W.condT; exact rfl) | (apply W.condF; exact rfl) | (apply W.cond; exact rfl; all_goals intro _) | (apply WO.gtr; exact rfl; exact rfl; all_goals first | (intro _; exfalso; omega) | intro _) | (apply WO.mki; exact rfl; exact rfl; omega) | (apply WO.mkb; exact rfl; exact rfl; omega) | (apply WO.clb; exact rfl; exact rfl; exact rfl; all_goals first | (intro h; exact absurd h (by decide)) | intro _) | (apply WO.cll; exact rfl; exact rfl; exact rfl) | (apply WO.hlv; exact rfl; exact rfl; exact rfl) | (apply WO.hpv; exact rfl; exact rfl; exact rfl) | (apply WO.hnv; exact rfl; exact rfl; exact rfl) | (apply WO.pl; exact rfl; exact rfl) | (apply WO.pp; exact rfl; exact rfl)
  exact ⟨.inr rfl, rfl, _, rfl, rfl, rfl⟩
theorem w49bad (C : CRk M) (l : List Mk) (hn : l.length ≤ 256) (he : scan vNone l ≠ 0) : Run M 49 [.vs (arr cm l) l.length cap] [] ⟨.tup [.nilsl, .int .i64 (scan vNone l)], [], []⟩ := by
  refine run_of_W (by rw [C.pq.ft]; exact ft49) (by simp) ?_
  unfold b49
  simp only [List.map_cons, List.map_nil, List.getElem?_cons_zero, List.getElem?_cons_succ, List.getElem?_nil, Option.getD_some, Option.getD_none]
  repeat' first | apply W.seq | apply SQn | apply W.region | apply WO.nil | apply W.block | apply W.ret | apply W.exit | apply W.skip | apply SQr | apply SQe | apply BQn | apply BQr | apply BQe | (apply BQo; exact rfl) | apply LQe | apply LQr | (apply W.condT; exact rfl) | (apply W.condF; exact rfl) | (apply W.cond; exact rfl; all_goals intro _) | (apply WO.gtr; exact rfl; exact rfl; all_goals first | (intro _; exfalso; omega) | intro _) | (apply WO.mki; exact rfl; exact rfl; omega) | (apply WO.mkb; exact rfl; exact rfl; omega) | (apply WO.clb; exact rfl; exact rfl; exact rfl; all_goals first | (intro h; exact absurd h (by decide)) | intro _) | (apply WO.cll; exact rfl; exact rfl; exact rfl) | (apply WO.hlv; exact rfl; exact rfl; exact rfl) | (apply WO.hpv; exact rfl; exact rfl; exact rfl) | (apply WO.hnv; exact rfl; exact rfl; exact rfl) | (apply WO.pl; exact rfl; exact rfl) | (apply WO.pp; exact rfl; exact rfl)
  refine loop49_0 C l (by omega) _ _ _ _ _ _ _ _ l.length 0 vNone _ _ _ _ _ (by omega) rfl (fun h => absurd h he) (fun _ a4 a5 a13 hp lo wr => ?_)
  repeat' first | apply W.seq | apply SQn | apply W.region | apply WO.nil | apply W.block | apply W.ret | apply W.exit | apply W.skip | apply SQr | apply SQe | apply BQn | apply BQr | apply BQe | (apply BQo; exact rfl) | apply LQe | apply LQr | (apply W.condT; exact rfl) | (apply W.condF; exact rfl) | (apply W.cond; exact rfl; all_goals intro _) | (apply WO.gtr; exact rfl; exact rfl; all_goals first | (intro _; exfalso; omega) | intro _) | (apply WO.mki; exact rfl; exact rfl; omega) | (apply WO.mkb; exact rfl; exact rfl; omega) | (apply WO.clb; exact rfl; exact rfl; exact rfl; all_goals first | (intro h; exact absurd h (by decide)) | intro _) | (apply WO.cll; exact rfl; exact rfl; exact rfl) | (apply WO.hlv; exact rfl; exact rfl; exact rfl) | (apply WO.hpv; exact rfl; exact rfl; exact rfl) | (apply WO.hnv; exact rfl; exact rfl; exact rfl) | (apply WO.pl; exact rfl; exact rfl) | (apply WO.pp; exact rfl; exact rfl)
  exact ⟨.inr rfl, rfl, _, rfl, rfl, rfl⟩
set_option maxHeartbeats 2000000 in
theorem w49 (C : CRk M) (l : List Mk) {B : Nat} (hs : SortsM M (fnM 115) cmpM B) (hB : l.length ≤ B) (hn : l.length ≤ 256) (he : scan vNone l = 0) : ∃ (k1 : Nat) (hh : Heap), hh.at k1 = some (.cells (ints (l.map (rankM l))) 3) ∧ Run M 49 [.vs (arr cm l) l.length cap] [] ⟨.tup [.sl k1 0 l.length 1 (some l.length), .int .i64 0], hh, []⟩ := by
  obtain ⟨v, hh, ⟨k1, rfl, h2⟩, h3⟩ := run_ofE (M := M) (f := 49) (ars := [.vs (arr cm l) l.length cap]) (P := fun v hh => ∃ k1 : Nat, v = .tup [.sl k1 0 l.length 1 (some l.length), .int .i64 0] ∧ hh.at k1 = some (.cells (ints (l.map (rankM l))) 3)) (by rw [C.pq.ft]; exact ft49) (by simp) (by
    unfold b49
    simp only [List.map_cons, List.map_nil, List.getElem?_cons_zero, List.getElem?_cons_succ, List.getElem?_nil, Option.getD_some, Option.getD_none]
    repeat' first | apply W.seq | apply SQn | apply W.region | apply WO.nil | apply W.block | apply W.ret | apply W.exit | apply W.skip | apply SQr | apply SQe | apply BQn | apply BQr | apply BQe | (apply BQo; exact rfl) | apply LQe | apply LQr | (apply W.condT; exact rfl) | (apply W.condF; exact rfl) | (apply W.cond; exact rfl; all_goals intro _) | (apply WO.lss; exact rfl; exact rfl; all_goals first | (intro _; exfalso; omega) | intro _) | (apply WO.gtr; exact rfl; exact rfl; all_goals first | (intro _; exfalso; omega) | intro _) | (apply WO.neq; exact rfl; exact rfl; all_goals first | (intro _; exfalso; omega) | intro _) | (apply WO.add; exact rfl; exact rfl; omega) | (apply WO.iav; exact rfl; exact rfl; omega) | (apply WO.ias; exact rfl; exact rfl; omega) | (apply WO.mki; exact rfl; exact rfl; omega) | (apply WO.mkb; exact rfl; exact rfl; omega) | (apply WO.lda; exact rfl; exact fun _ => rfl; (first | omega | (simp only [List.length_set]; omega) | (simp; omega)); decide; exact rfl; case ia => infer_instance) | (apply WO.lsa; exact rfl; (first | exact rfl | assumption | exact at_new | (apply at_old; assumption) | (apply at_put; first | assumption | (simp only [put_length]; assumption))); exact fun _ => rfl; (first | omega | (simp only [List.length_set]; omega) | (simp; omega)); decide; exact rfl; case ia => infer_instance) | (apply WO.sta; exact rfl; exact rfl; (first | exact rfl | assumption | exact at_new | (apply at_old; assumption) | (apply at_put; first | assumption | (simp only [put_length]; assumption))); exact fun _ => rfl; (first | omega | (simp only [List.length_set]; omega) | (simp; omega)); exact ⟨rfl, by decide, rfl⟩; exact rfl; case ia => infer_instance) | (apply WO.ldf; exact rfl; exact fun _ => rfl; (first | omega | (simp only [List.length_set]; omega) | (simp; omega)); decide; exact rfl; case ia => infer_instance) | (apply WO.lsf; exact rfl; (first | exact rfl | assumption | exact at_new | (apply at_old; assumption) | (apply at_put; first | assumption | (simp only [put_length]; assumption))); exact fun _ => rfl; (first | omega | (simp only [List.length_set]; omega) | (simp; omega)); decide; exact rfl; case ia => infer_instance) | (apply WO.stf; exact rfl; exact rfl; (first | exact rfl | assumption | exact at_new | (apply at_old; assumption) | (apply at_put; first | assumption | (simp only [put_length]; assumption))); exact fun _ => rfl; (first | omega | (simp only [List.length_set]; omega) | (simp; omega)); exact ⟨rfl, by decide, rfl⟩; exact rfl; case ia => infer_instance) | (apply WO.sneq; exact rfl; exact rfl; all_goals first | (intro h; exact absurd h (by decide)) | (intro h; exact absurd rfl h) | (intro h; contradiction) | intro _) | (apply WO.clb; exact rfl; exact rfl; exact rfl; all_goals first | (intro h; exact absurd h (by decide)) | intro _) | (apply WO.cll; exact rfl; exact rfl; exact rfl) | (apply WO.hlv; exact rfl; exact rfl; exact rfl) | (apply WO.hpv; exact rfl; exact rfl; exact rfl) | (apply WO.hnv; exact rfl; exact rfl; exact rfl) | (apply WO.pl; exact rfl; exact rfl) | (apply WO.pp; exact rfl; exact rfl)
    refine loop49_0 C l (by omega) _ _ _ _ _ _ _ _ l.length 0 vNone _ _ _ _ _ (by omega) rfl (fun _ a4 a5 hp lo wr hpos => ?_) (fun h => absurd he h)
    by_cases hl : l = []
    · subst hl
      have hc1 : ∀ h, M.ext 130 [.vs (arr cm []) 0 cap] h = some ⟨.vs [] 0 none, h, []⟩ := fun h => by rw [C.c130]; exact specClone_nil _ _
      have hc2 := fun h => r131nil C.pq (fnM 115) h
      have h0 : ((([] : List Mk).length : Nat) : Int) = 0 := rfl
      repeat' first | apply W.seq | apply SQn | apply W.region | apply WO.nil | apply W.block | apply W.ret | apply W.exit | apply W.skip | apply SQr | apply SQe | apply BQn | apply BQr | apply BQe | (apply BQo; exact rfl) | apply LQe | apply LQr | (apply W.condT; exact rfl) | (apply W.condF; exact rfl) | (apply W.cond; exact rfl; all_goals intro _) | (apply WO.lss; exact rfl; exact rfl; all_goals first | (intro _; exfalso; omega) | intro _) | (apply WO.gtr; exact rfl; exact rfl; all_goals first | (intro _; exfalso; omega) | intro _) | (apply WO.neq; exact rfl; exact rfl; all_goals first | (intro _; exfalso; omega) | intro _) | (apply WO.add; exact rfl; exact rfl; omega) | (apply WO.cll; exact rfl; exact rfl; first | exact hc1 _) | (apply WO.ct; exact rfl; exact rfl; first | exact hc2 _) | (apply WO.ctn; exact rfl; exact rfl; first | exact hc2 _) | (apply WD.ct; exact rfl; exact rfl; exact rfl; first | exact hc2 _) | (apply WO.iav; exact rfl; exact rfl; omega) | (apply WO.ias; exact rfl; exact rfl; omega) | (apply WO.mki; exact rfl; exact rfl; omega) | (apply WO.mkb; exact rfl; exact rfl; omega) | (apply WO.lda; exact rfl; exact fun _ => rfl; (first | omega | (simp only [List.length_set]; omega) | (simp; omega)); decide; exact rfl; case ia => infer_instance) | (apply WO.lsa; exact rfl; (first | exact rfl | assumption | exact at_new | (apply at_old; assumption) | (apply at_put; first | assumption | (simp only [put_length]; assumption))); exact fun _ => rfl; (first | omega | (simp only [List.length_set]; omega) | (simp; omega)); decide; exact rfl; case ia => infer_instance) | (apply WO.sta; exact rfl; exact rfl; (first | exact rfl | assumption | exact at_new | (apply at_old; assumption) | (apply at_put; first | assumption | (simp only [put_length]; assumption))); exact fun _ => rfl; (first | omega | (simp only [List.length_set]; omega) | (simp; omega)); exact ⟨rfl, by decide, rfl⟩; exact rfl; case ia => infer_instance) | (apply WO.ldf; exact rfl; exact fun _ => rfl; (first | omega | (simp only [List.length_set]; omega) | (simp; omega)); decide; exact rfl; case ia => infer_instance) | (apply WO.lsf; exact rfl; (first | exact rfl | assumption | exact at_new | (apply at_old; assumption) | (apply at_put; first | assumption | (simp only [put_length]; assumption))); exact fun _ => rfl; (first | omega | (simp only [List.length_set]; omega) | (simp; omega)); decide; exact rfl; case ia => infer_instance) | (apply WO.stf; exact rfl; exact rfl; (first | exact rfl | assumption | exact at_new | (apply at_old; assumption) | (apply at_put; first | assumption | (simp only [put_length]; assumption))); exact fun _ => rfl; (first | omega | (simp only [List.length_set]; omega) | (simp; omega)); exact ⟨rfl, by decide, rfl⟩; exact rfl; case ia => infer_instance) | (apply WO.sneq; exact rfl; exact rfl; all_goals first | (intro h; exact absurd h (by decide)) | (intro h; exact absurd rfl h) | (intro h; contradiction) | intro _) | (apply WO.clb; exact rfl; exact rfl; exact rfl; all_goals first | (intro h; exact absurd h (by decide)) | intro _) | (apply WO.cll; exact rfl; exact rfl; exact rfl) | (apply WO.hlv; exact rfl; exact rfl; exact rfl) | (apply WO.hpv; exact rfl; exact rfl; exact rfl) | (apply WO.hnv; exact rfl; exact rfl; exact rfl) | (apply WO.pl; exact rfl; exact rfl) | (apply WO.pp; exact rfl; exact rfl)
      refine W.loop ?_
      unfold b49_1
      repeat' first | apply W.seq | apply SQn | apply W.region | apply WO.nil | apply W.block | apply W.ret | apply W.exit | apply W.skip | apply SQr | apply SQe | apply BQn | apply BQr | apply BQe | (apply BQo; exact rfl) | apply LQe | apply LQr | (apply W.condT; exact rfl) | (apply W.condF; exact rfl) | (apply W.cond; exact rfl; all_goals intro _) | (apply WO.lss; exact rfl; exact rfl; all_goals first | (intro _; exfalso; omega) | intro _) | (apply WO.gtr; exact rfl; exact rfl; all_goals first | (intro _; exfalso; omega) | intro _) | (apply WO.neq; exact rfl; exact rfl; all_goals first | (intro _; exfalso; omega) | intro _) | (apply WO.add; exact rfl; exact rfl; omega) | (apply WO.iav; exact rfl; exact rfl; omega) | (apply WO.ias; exact rfl; exact rfl; omega) | (apply WO.mki; exact rfl; exact rfl; omega) | (apply WO.mkb; exact rfl; exact rfl; omega) | (apply WO.lda; exact rfl; exact fun _ => rfl; (first | omega | (simp only [List.length_set]; omega) | (simp; omega)); decide; exact rfl; case ia => infer_instance) | (apply WO.lsa; exact rfl; (first | exact rfl | assumption | exact at_new | (apply at_old; assumption) | (apply at_put; first | assumption | (simp only [put_length]; assumption))); exact fun _ => rfl; (first | omega | (simp only [List.length_set]; omega) | (simp; omega)); decide; exact rfl; case ia => infer_instance) | (apply WO.sta; exact rfl; exact rfl; (first | exact rfl | assumption | exact at_new | (apply at_old; assumption) | (apply at_put; first | assumption | (simp only [put_length]; assumption))); exact fun _ => rfl; (first | omega | (simp only [List.length_set]; omega) | (simp; omega)); exact ⟨rfl, by decide, rfl⟩; exact rfl; case ia => infer_instance) | (apply WO.ldf; exact rfl; exact fun _ => rfl; (first | omega | (simp only [List.length_set]; omega) | (simp; omega)); decide; exact rfl; case ia => infer_instance) | (apply WO.lsf; exact rfl; (first | exact rfl | assumption | exact at_new | (apply at_old; assumption) | (apply at_put; first | assumption | (simp only [put_length]; assumption))); exact fun _ => rfl; (first | omega | (simp only [List.length_set]; omega) | (simp; omega)); decide; exact rfl; case ia => infer_instance) | (apply WO.stf; exact rfl; exact rfl; (first | exact rfl | assumption | exact at_new | (apply at_old; assumption) | (apply at_put; first | assumption | (simp only [put_length]; assumption))); exact fun _ => rfl; (first | omega | (simp only [List.length_set]; omega) | (simp; omega)); exact ⟨rfl, by decide, rfl⟩; exact rfl; case ia => infer_instance) | (apply WO.sneq; exact rfl; exact rfl; all_goals first | (intro h; exact absurd h (by decide)) | (intro h; exact absurd rfl h) | (intro h; contradiction) | intro _) | (apply WO.clb; exact rfl; exact rfl; exact rfl; all_goals first | (intro h; exact absurd h (by decide)) | intro _) | (apply WO.cll; exact rfl; exact rfl; exact rfl) | (apply WO.hlv; exact rfl; exact rfl; exact rfl) | (apply WO.hpv; exact rfl; exact rfl; exact rfl) | (apply WO.hnv; exact rfl; exact rfl; exact rfl) | (apply WO.pl; exact rfl; exact rfl) | (apply WO.pp; exact rfl; exact rfl)
      refine ⟨.inr rfl, rfl, _, rfl, hp.length, rfl, ?_⟩
      rw [if_neg (by simp [tupA, AV.top, topL])]
      exact at_new
    · have hc1 : ∀ h, M.ext 130 [.vs (arr cm l) l.length cap] h = some ⟨.sl h.length 0 l.length 3 none, h ++ [some (.cells (arr cm l) 49)], []⟩ := fun h => by rw [C.c130]; exact specClone_some hl (by omega) _ _
      have hlp : 0 < l.length := List.length_pos_iff.2 hl
      obtain ⟨O, hO⟩ : ∃ O, O = some (Blk.cells (arr (fun x : Int => [AV.int .i64 x]) (List.replicate ((l.length : Int)).toNat 0)) 3) := ⟨_, rfl⟩
      obtain ⟨S, wr', hw', hP, hS, hc2⟩ := hs ((hp ++ [O]) ++ [some (.cells (arr cm l) 49)]) (hp ++ [O]).length none l (by simp) hB
      rw [show mh ((hp ++ [O]) ++ [some (.cells (arr cm l) 49)]) (hp ++ [O]).length l = (hp ++ [O]) ++ [some (.cells (arr cm l) 49)] from put_self at_new] at hc2
      subst hO
      repeat' first | apply W.seq | apply SQn | apply W.region | apply WO.nil | apply W.block | apply W.ret | apply W.exit | apply W.skip | apply SQr | apply SQe | apply BQn | apply BQr | apply BQe | (apply BQo; exact rfl) | apply LQe | apply LQr | (apply W.condT; exact rfl) | (apply W.condF; exact rfl) | (apply W.cond; exact rfl; all_goals intro _) | (apply WO.lss; exact rfl; exact rfl; all_goals first | (intro _; exfalso; omega) | intro _) | (apply WO.gtr; exact rfl; exact rfl; all_goals first | (intro _; exfalso; omega) | intro _) | (apply WO.neq; exact rfl; exact rfl; all_goals first | (intro _; exfalso; omega) | intro _) | (apply WO.add; exact rfl; exact rfl; omega) | (apply WO.cll; exact rfl; exact rfl; first | exact hc1 _) | (apply WO.ct; exact rfl; exact rfl; first | exact hc2) | (apply WO.ctn; exact rfl; exact rfl; first | exact hc2) | (apply WD.ct; exact rfl; exact rfl; exact rfl; first | exact hc2) | (apply WO.iav; exact rfl; exact rfl; omega) | (apply WO.ias; exact rfl; exact rfl; omega) | (apply WO.mki; exact rfl; exact rfl; omega) | (apply WO.mkb; exact rfl; exact rfl; omega) | (apply WO.lda; exact rfl; exact fun _ => rfl; (first | omega | (simp only [List.length_set]; omega) | (simp; omega)); decide; exact rfl; case ia => infer_instance) | (apply WO.lsa; exact rfl; (first | exact rfl | assumption | exact at_new | (apply at_old; assumption) | (apply at_put; first | assumption | (simp only [put_length]; assumption))); exact fun _ => rfl; (first | omega | (simp only [List.length_set]; omega) | (simp; omega)); decide; exact rfl; case ia => infer_instance) | (apply WO.sta; exact rfl; exact rfl; (first | exact rfl | assumption | exact at_new | (apply at_old; assumption) | (apply at_put; first | assumption | (simp only [put_length]; assumption))); exact fun _ => rfl; (first | omega | (simp only [List.length_set]; omega) | (simp; omega)); exact ⟨rfl, by decide, rfl⟩; exact rfl; case ia => infer_instance) | (apply WO.ldf; exact rfl; exact fun _ => rfl; (first | omega | (simp only [List.length_set]; omega) | (simp; omega)); decide; exact rfl; case ia => infer_instance) | (apply WO.lsf; exact rfl; (first | exact rfl | assumption | exact at_new | (apply at_old; assumption) | (apply at_put; first | assumption | (simp only [put_length]; assumption))); exact fun _ => rfl; (first | omega | (simp only [List.length_set]; omega) | (simp; omega)); decide; exact rfl; case ia => infer_instance) | (apply WO.stf; exact rfl; exact rfl; (first | exact rfl | assumption | exact at_new | (apply at_old; assumption) | (apply at_put; first | assumption | (simp only [put_length]; assumption))); exact fun _ => rfl; (first | omega | (simp only [List.length_set]; omega) | (simp; omega)); exact ⟨rfl, by decide, rfl⟩; exact rfl; case ia => infer_instance) | (apply WO.sneq; exact rfl; exact rfl; all_goals first | (intro h; exact absurd h (by decide)) | (intro h; exact absurd rfl h) | (intro h; contradiction) | intro _) | (apply WO.clb; exact rfl; exact rfl; exact rfl; all_goals first | (intro h; exact absurd h (by decide)) | intro _) | (apply WO.cll; exact rfl; exact rfl; exact rfl) | (apply WO.hlv; exact rfl; exact rfl; exact rfl) | (apply WO.hpv; exact rfl; exact rfl; exact rfl) | (apply WO.hnv; exact rfl; exact rfl; exact rfl) | (apply WO.pl; exact rfl; exact rfl) | (apply WO.pp; exact rfl; exact rfl)
      refine loop49_1 C l S (by omega) hP.length_eq hP hS hp.length (hp ++ [_]).length (by simp) _ _ _ _ _ _ l.length 0 _ _ _ _ _ _ (by omega) ?_ ?_ (fun a8 a9 a10 hp2 lo wr h2 => ?_)
      · have e : ints (List.map (rankM l) (List.take 0 l) ++ List.replicate (l.length - 0) 0) = arr (fun x : Int => [AV.int .i64 x]) (List.replicate ((l.length : Int)).toNat 0) := by simp [ints]
        rw [e]
        exact at_else (by simp) (at_old at_new)
      · exact at_put (by simp)
      · repeat' first | apply W.seq | apply SQn | apply W.region | apply WO.nil | apply W.block | apply W.ret | apply W.exit | apply W.skip | apply SQr | apply SQe | apply BQn | apply BQr | apply BQe | (apply BQo; exact rfl) | apply LQe | apply LQr | (apply W.condT; exact rfl) | (apply W.condF; exact rfl) | (apply W.cond; exact rfl; all_goals intro _) | (apply WO.lss; exact rfl; exact rfl; all_goals first | (intro _; exfalso; omega) | intro _) | (apply WO.gtr; exact rfl; exact rfl; all_goals first | (intro _; exfalso; omega) | intro _) | (apply WO.neq; exact rfl; exact rfl; all_goals first | (intro _; exfalso; omega) | intro _) | (apply WO.add; exact rfl; exact rfl; omega) | (apply WO.iav; exact rfl; exact rfl; omega) | (apply WO.ias; exact rfl; exact rfl; omega) | (apply WO.mki; exact rfl; exact rfl; omega) | (apply WO.mkb; exact rfl; exact rfl; omega) | (apply WO.lda; exact rfl; exact fun _ => rfl; (first | omega | (simp only [List.length_set]; omega) | (simp; omega)); decide; exact rfl; case ia => infer_instance) | (apply WO.lsa; exact rfl; (first | exact rfl | assumption | exact at_new | (apply at_old; assumption) | (apply at_put; first | assumption | (simp only [put_length]; assumption))); exact fun _ => rfl; (first | omega | (simp only [List.length_set]; omega) | (simp; omega)); decide; exact rfl; case ia => infer_instance) | (apply WO.sta; exact rfl; exact rfl; (first | exact rfl | assumption | exact at_new | (apply at_old; assumption) | (apply at_put; first | assumption | (simp only [put_length]; assumption))); exact fun _ => rfl; (first | omega | (simp only [List.length_set]; omega) | (simp; omega)); exact ⟨rfl, by decide, rfl⟩; exact rfl; case ia => infer_instance) | (apply WO.ldf; exact rfl; exact fun _ => rfl; (first | omega | (simp only [List.length_set]; omega) | (simp; omega)); decide; exact rfl; case ia => infer_instance) | (apply WO.lsf; exact rfl; (first | exact rfl | assumption | exact at_new | (apply at_old; assumption) | (apply at_put; first | assumption | (simp only [put_length]; assumption))); exact fun _ => rfl; (first | omega | (simp only [List.length_set]; omega) | (simp; omega)); decide; exact rfl; case ia => infer_instance) | (apply WO.stf; exact rfl; exact rfl; (first | exact rfl | assumption | exact at_new | (apply at_old; assumption) | (apply at_put; first | assumption | (simp only [put_length]; assumption))); exact fun _ => rfl; (first | omega | (simp only [List.length_set]; omega) | (simp; omega)); exact ⟨rfl, by decide, rfl⟩; exact rfl; case ia => infer_instance) | (apply WO.sneq; exact rfl; exact rfl; all_goals first | (intro h; exact absurd h (by decide)) | (intro h; exact absurd rfl h) | (intro h; contradiction) | intro _) | (apply WO.clb; exact rfl; exact rfl; exact rfl; all_goals first | (intro h; exact absurd h (by decide)) | intro _) | (apply WO.cll; exact rfl; exact rfl; exact rfl) | (apply WO.hlv; exact rfl; exact rfl; exact rfl) | (apply WO.hpv; exact rfl; exact rfl; exact rfl) | (apply WO.hnv; exact rfl; exact rfl; exact rfl) | (apply WO.pl; exact rfl; exact rfl) | (apply WO.pp; exact rfl; exact rfl)
        refine ⟨.inr rfl, rfl, _, rfl, hp.length, rfl, ?_⟩
        rw [if_neg (by simp [tupA, AV.top, topL])]
        exact h2)
  exact ⟨k1, hh, h2, h3⟩
end Go.Ab.Ch1


/-
  Own work: the resolved code of some functions of chapter 1: the sort of marks.
-/
namespace Go.Ab.Ch1

def b270_0 : ICode :=
 .block 1
  (.seq (.region [⟨(.l 13), .mv (.p 5), none⟩,
     ⟨(.l 14), .bin .mul (.c (.int .i64 (2))) (.l 13), none⟩,
     ⟨(.l 15), .bin .add (.l 14) (.c (.int .i64 (1))), none⟩,
     ⟨(.p 6), .mv (.l 15), none⟩])
   (.seq (.seq (.region [⟨(.l 16), .mv (.p 6), none⟩,
       ⟨(.l 17), .mv (.p 2), none⟩,
       ⟨(.l 18), .bin .geq (.l 16) (.l 17), none⟩])
     (.cond (.l 18)
      (.exit 0)
      (.skip)))
    (.seq (.seq (.draw [(⟨(.l 19), .mv (.p 6), none⟩, []),
        (⟨(.l 20), .bin .add (.l 19) (.c (.int .i64 (1))), none⟩, []),
        (⟨(.l 21), .mv (.p 2), none⟩, [0, 1]),
        (⟨(.l 22), .bin .lss (.l 20) (.l 21), none⟩, []),
        (⟨(.l 23), .mv (.l 22), none⟩, []),
        (⟨(.l 24), .mv (.p 4), some ((.l 23), true)⟩, []),
        (⟨(.l 25), .mv (.p 0), some ((.l 23), true)⟩, [5]),
        (⟨(.l 26), .mv (.p 3), some ((.l 23), true)⟩, [5, 6]),
        (⟨(.l 27), .mv (.p 6), some ((.l 23), true)⟩, [5, 6, 7]),
        (⟨(.l 28), .bin .add (.l 26) (.l 27), some ((.l 23), true)⟩, [5, 6]),
        (⟨(.l 29), .iaddr none 3 (.l 25) (.l 28), some ((.l 23), true)⟩, [5]),
        (⟨(.l 30), .load 3 true (.l 29), some ((.l 23), true)⟩, [5]),
        (⟨(.l 31), .mv (.p 0), some ((.l 23), true)⟩, [5, 6, 7, 8, 9, 10, 11]),
        (⟨(.l 32), .mv (.p 3), some ((.l 23), true)⟩, [5, 6, 7, 8, 9, 10, 11, 12]),
        (⟨(.l 33), .mv (.p 6), some ((.l 23), true)⟩, [5, 6, 7, 8, 9, 10, 11, 12, 13]),
        (⟨(.l 34), .bin .add (.l 32) (.l 33), some ((.l 23), true)⟩, [5, 6, 7, 8, 9, 10, 11, 12]),
        (⟨(.l 35), .bin .add (.l 34) (.c (.int .i64 (1))), some ((.l 23), true)⟩, [5, 6, 7, 8, 9, 10, 11, 12]),
        (⟨(.l 36), .iaddr none 3 (.l 31) (.l 35), some ((.l 23), true)⟩, [5, 6, 7, 8, 9, 10, 11]),
        (⟨(.l 37), .load 3 true (.l 36), some ((.l 23), true)⟩, [5, 6, 7, 8, 9, 10, 11]),
        (⟨(.l 38), .call (.l 24) [(.l 30), (.l 37)], some ((.l 23), true)⟩, []),
        (⟨(.l 39), .bin .lss (.l 38) (.c (.int .i64 (0))), some ((.l 23), true)⟩, []),
        (⟨(.l 40), .pick (.l 23) (.l 39) (.c (.bool false)), none⟩, [])])
      (.cond (.l 40)
       (.region [⟨(.l 41), .mv (.p 6), none⟩,
         ⟨(.l 42), .bin .add (.l 41) (.c (.int .i64 (1))), none⟩,
         ⟨(.p 6), .mv (.l 42), none⟩])
       (.skip)))
     (.seq (.seq (.draw [(⟨(.l 43), .mv (.p 4), none⟩, []),
         (⟨(.l 44), .mv (.p 0), none⟩, [0]),
         (⟨(.l 45), .mv (.p 3), none⟩, [0, 1]),
         (⟨(.l 46), .mv (.p 5), none⟩, [0, 1, 2]),
         (⟨(.l 47), .bin .add (.l 45) (.l 46), none⟩, [0, 1]),
         (⟨(.l 48), .iaddr none 3 (.l 44) (.l 47), none⟩, [0]),
         (⟨(.l 49), .load 3 true (.l 48), none⟩, [0]),
         (⟨(.l 50), .mv (.p 0), none⟩, [0, 1, 2, 3, 4, 5, 6]),
         (⟨(.l 51), .mv (.p 3), none⟩, [0, 1, 2, 3, 4, 5, 6, 7]),
         (⟨(.l 52), .mv (.p 6), none⟩, [0, 1, 2, 3, 4, 5, 6, 7, 8]),
         (⟨(.l 53), .bin .add (.l 51) (.l 52), none⟩, [0, 1, 2, 3, 4, 5, 6, 7]),
         (⟨(.l 54), .iaddr none 3 (.l 50) (.l 53), none⟩, [0, 1, 2, 3, 4, 5, 6]),
         (⟨(.l 55), .load 3 true (.l 54), none⟩, [0, 1, 2, 3, 4, 5, 6]),
         (⟨(.l 56), .call (.l 43) [(.l 49), (.l 55)], none⟩, []),
         (⟨(.l 57), .bin .lss (.l 56) (.c (.int .i64 (0))), none⟩, []),
         (⟨(.l 58), .un .not (.l 57), none⟩, [])])
       (.cond (.l 58)
        (.ret)
        (.skip)))
      (.seq (.draw [(⟨(.l 59), .mv (.p 0), none⟩, []),
         (⟨(.l 60), .mv (.p 3), none⟩, [0]),
         (⟨(.l 61), .mv (.p 5), none⟩, [0, 1]),
         (⟨(.l 62), .bin .add (.l 60) (.l 61), none⟩, [0]),
         (⟨(.l 63), .mv (.p 0), none⟩, [0, 1, 2, 3]),
         (⟨(.l 64), .mv (.p 3), none⟩, [0, 1, 2, 3, 4]),
         (⟨(.l 65), .mv (.p 6), none⟩, [0, 1, 2, 3, 4, 5]),
         (⟨(.l 66), .bin .add (.l 64) (.l 65), none⟩, [0, 1, 2, 3, 4]),
         (⟨(.l 67), .mv (.p 0), none⟩, [0, 1, 2, 3, 4, 5, 6, 7]),
         (⟨(.l 68), .mv (.p 3), none⟩, [0, 1, 2, 3, 4, 5, 6, 7, 8]),
         (⟨(.l 69), .mv (.p 6), none⟩, [0, 1, 2, 3, 4, 5, 6, 7, 8, 9]),
         (⟨(.l 70), .bin .add (.l 68) (.l 69), none⟩, [0, 1, 2, 3, 4, 5, 6, 7, 8]),
         (⟨(.l 71), .iaddr none 3 (.l 67) (.l 70), none⟩, [0, 1, 2, 3, 4, 5, 6, 7]),
         (⟨(.l 72), .load 3 true (.l 71), none⟩, [0, 1, 2, 3, 4, 5, 6, 7]),
         (⟨(.l 73), .mv (.p 0), none⟩, [0, 1, 2, 3, 4, 5, 6, 7, 8, 9, 10, 11, 12, 13]),
         (⟨(.l 74), .mv (.p 3), none⟩, [0, 1, 2, 3, 4, 5, 6, 7, 8, 9, 10, 11, 12, 13, 14]),
         (⟨(.l 75), .mv (.p 5), none⟩, [0, 1, 2, 3, 4, 5, 6, 7, 8, 9, 10, 11, 12, 13, 14, 15]),
         (⟨(.l 76), .bin .add (.l 74) (.l 75), none⟩, [0, 1, 2, 3, 4, 5, 6, 7, 8, 9, 10, 11, 12, 13, 14]),
         (⟨(.l 77), .iaddr none 3 (.l 73) (.l 76), none⟩, [0, 1, 2, 3, 4, 5, 6, 7, 8, 9, 10, 11, 12, 13]),
         (⟨(.l 78), .load 3 true (.l 77), none⟩, [0, 1, 2, 3, 4, 5, 6, 7, 8, 9, 10, 11, 12, 13]),
         (⟨(.l 79), .iaddr none 3 (.l 59) (.l 62), none⟩, [4, 5, 6, 7]),
         (⟨.no, .store 3 (.l 79) (.l 72), none⟩, [4, 5, 6, 7]),
         (⟨(.l 80), .iaddr none 3 (.l 63) (.l 66), none⟩, []),
         (⟨.no, .store 3 (.l 80) (.l 78), none⟩, [])])
       (.region [⟨(.l 81), .mv (.p 6), none⟩,
         ⟨(.p 5), .mv (.l 81), none⟩]))))))
/-- slices.siftDownCmpFunc[stadion/api.Mark] -/
def b270 : ICode :=
 .seq (.region [⟨(.l 12), .mv (.p 1), none⟩,
    ⟨(.p 5), .mv (.l 12), none⟩])
  (.block 0
   (.loop b270_0))
theorem ft270 : FT 270 = some ⟨82, [0, 1, 2, 3, 4, 10, 11], [], b270⟩ := by kernel_rfl

def b232_0 : ICode :=
 .seq (.seq (.region [⟨(.l 20), .mv (.p 7), none⟩,
     ⟨(.l 21), .bin .geq (.l 20) (.c (.int .i64 (0))), none⟩])
   (.cond (.l 21)
    (.skip)
    (.exit 0)))
  (.seq (.block 1
    (.region [⟨(.l 24), .mv (.p 0), none⟩,
      ⟨(.l 25), .mv (.p 7), none⟩,
      ⟨(.l 26), .mv (.p 6), none⟩,
      ⟨(.l 27), .mv (.p 4), none⟩,
      ⟨(.l 28), .mv (.p 3), none⟩,
      ⟨(.l 29), .call (.c (.fn (.func 270) [] [])) [(.l 24), (.l 25), (.l 26), (.l 27), (.l 28)], none⟩]))
   (.region [⟨(.l 22), .mv (.p 7), none⟩,
     ⟨(.l 23), .bin .sub (.l 22) (.c (.int .i64 (1))), none⟩,
     ⟨(.p 7), .mv (.l 23), none⟩]))
def b232_1 : ICode :=
 .seq (.seq (.region [⟨(.l 32), .mv (.p 8), none⟩,
     ⟨(.l 33), .bin .geq (.l 32) (.c (.int .i64 (0))), none⟩])
   (.cond (.l 33)
    (.skip)
    (.exit 2)))
  (.seq (.block 3
    (.seq (.draw [(⟨(.l 36), .mv (.p 0), none⟩, []),
       (⟨(.l 37), .mv (.p 4), none⟩, [0]),
       (⟨(.l 38), .mv (.p 0), none⟩, [0, 1]),
       (⟨(.l 39), .mv (.p 4), none⟩, [0, 1, 2]),
       (⟨(.l 40), .mv (.p 8), none⟩, [0, 1, 2, 3]),
       (⟨(.l 41), .bin .add (.l 39) (.l 40), none⟩, [0, 1, 2]),
       (⟨(.l 42), .mv (.p 0), none⟩, [0, 1, 2, 3, 4, 5]),
       (⟨(.l 43), .mv (.p 4), none⟩, [0, 1, 2, 3, 4, 5, 6]),
       (⟨(.l 44), .mv (.p 8), none⟩, [0, 1, 2, 3, 4, 5, 6, 7]),
       (⟨(.l 45), .bin .add (.l 43) (.l 44), none⟩, [0, 1, 2, 3, 4, 5, 6]),
       (⟨(.l 46), .iaddr none 3 (.l 42) (.l 45), none⟩, [0, 1, 2, 3, 4, 5]),
       (⟨(.l 47), .load 3 true (.l 46), none⟩, [0, 1, 2, 3, 4, 5]),
       (⟨(.l 48), .mv (.p 0), none⟩, [0, 1, 2, 3, 4, 5, 6, 7, 8, 9, 10, 11]),
       (⟨(.l 49), .mv (.p 4), none⟩, [0, 1, 2, 3, 4, 5, 6, 7, 8, 9, 10, 11, 12]),
       (⟨(.l 50), .iaddr none 3 (.l 48) (.l 49), none⟩, [0, 1, 2, 3, 4, 5, 6, 7, 8, 9, 10, 11]),
       (⟨(.l 51), .load 3 true (.l 50), none⟩, [0, 1, 2, 3, 4, 5, 6, 7, 8, 9, 10, 11]),
       (⟨(.l 52), .iaddr none 3 (.l 36) (.l 37), none⟩, [2, 3, 4, 5]),
       (⟨.no, .store 3 (.l 52) (.l 47), none⟩, [2, 3, 4, 5]),
       (⟨(.l 53), .iaddr none 3 (.l 38) (.l 41), none⟩, []),
       (⟨.no, .store 3 (.l 53) (.l 51), none⟩, [])])
     (.region [⟨(.l 54), .mv (.p 0), none⟩,
       ⟨(.l 55), .mv (.p 5), none⟩,
       ⟨(.l 56), .mv (.p 8), none⟩,
       ⟨(.l 57), .mv (.p 4), none⟩,
       ⟨(.l 58), .mv (.p 3), none⟩,
       ⟨(.l 59), .call (.c (.fn (.func 270) [] [])) [(.l 54), (.l 55), (.l 56), (.l 57), (.l 58)], none⟩])))
   (.region [⟨(.l 34), .mv (.p 8), none⟩,
     ⟨(.l 35), .bin .sub (.l 34) (.c (.int .i64 (1))), none⟩,
     ⟨(.p 8), .mv (.l 35), none⟩]))
/-- slices.heapSortCmpFunc[stadion/api.Mark] -/
def b232 : ICode :=
 .seq (.region [⟨(.l 13), .mv (.p 1), none⟩,
    ⟨(.p 4), .mv (.l 13), none⟩])
  (.seq (.region [⟨(.p 5), .mv (.c (.int .i64 (0))), none⟩])
   (.seq (.region [⟨(.l 14), .mv (.p 2), none⟩,
      ⟨(.l 15), .mv (.p 1), none⟩,
      ⟨(.l 16), .bin .sub (.l 14) (.l 15), none⟩,
      ⟨(.p 6), .mv (.l 16), none⟩])
    (.seq (.seq (.region [⟨(.l 17), .mv (.p 6), none⟩,
        ⟨(.l 18), .bin .sub (.l 17) (.c (.int .i64 (1))), none⟩,
        ⟨(.l 19), .bin .quo (.l 18) (.c (.int .i64 (2))), none⟩,
        ⟨(.p 7), .mv (.l 19), none⟩])
      (.block 0
       (.loop b232_0)))
     (.seq (.region [⟨(.l 30), .mv (.p 6), none⟩,
        ⟨(.l 31), .bin .sub (.l 30) (.c (.int .i64 (1))), none⟩,
        ⟨(.p 8), .mv (.l 31), none⟩])
      (.block 2
       (.loop b232_1))))))
theorem ft232 : FT 232 = some ⟨60, [0, 1, 2, 3, 8, 9, 10, 11, 12], [], b232⟩ := by kernel_rfl

def b238_0 : ICode :=
 .seq (.seq (.draw [(⟨(.l 32), .mv (.p 7), none⟩, []),
     (⟨(.l 33), .mv (.p 8), none⟩, [0]),
     (⟨(.l 34), .bin .leq (.l 32) (.l 33), none⟩, []),
     (⟨(.l 35), .mv (.l 34), none⟩, []),
     (⟨(.l 36), .mv (.p 4), some ((.l 35), true)⟩, []),
     (⟨(.l 37), .mv (.p 0), some ((.l 35), true)⟩, [4]),
     (⟨(.l 38), .mv (.p 7), some ((.l 35), true)⟩, [4, 5]),
     (⟨(.l 39), .iaddr none 3 (.l 37) (.l 38), some ((.l 35), true)⟩, [4]),
     (⟨(.l 40), .load 3 true (.l 39), some ((.l 35), true)⟩, [4]),
     (⟨(.l 41), .mv (.p 0), some ((.l 35), true)⟩, [4, 5, 6, 7, 8]),
     (⟨(.l 42), .mv (.p 1), some ((.l 35), true)⟩, [4, 5, 6, 7, 8, 9]),
     (⟨(.l 43), .iaddr none 3 (.l 41) (.l 42), some ((.l 35), true)⟩, [4, 5, 6, 7, 8]),
     (⟨(.l 44), .load 3 true (.l 43), some ((.l 35), true)⟩, [4, 5, 6, 7, 8]),
     (⟨(.l 45), .call (.l 36) [(.l 40), (.l 44)], some ((.l 35), true)⟩, []),
     (⟨(.l 46), .bin .lss (.l 45) (.c (.int .i64 (0))), some ((.l 35), true)⟩, []),
     (⟨(.l 47), .pick (.l 35) (.l 46) (.c (.bool false)), none⟩, [])])
   (.cond (.l 47)
    (.skip)
    (.exit 0)))
  (.block 1
   (.region [⟨(.l 48), .mv (.p 7), none⟩,
     ⟨(.l 49), .bin .add (.l 48) (.c (.int .i64 (1))), none⟩,
     ⟨(.p 7), .mv (.l 49), none⟩]))
def b238_1 : ICode :=
 .seq (.seq (.draw [(⟨(.l 50), .mv (.p 7), none⟩, []),
     (⟨(.l 51), .mv (.p 8), none⟩, [0]),
     (⟨(.l 52), .bin .leq (.l 50) (.l 51), none⟩, []),
     (⟨(.l 53), .mv (.l 52), none⟩, []),
     (⟨(.l 54), .mv (.p 4), some ((.l 53), true)⟩, []),
     (⟨(.l 55), .mv (.p 0), some ((.l 53), true)⟩, [4]),
     (⟨(.l 56), .mv (.p 8), some ((.l 53), true)⟩, [4, 5]),
     (⟨(.l 57), .iaddr none 3 (.l 55) (.l 56), some ((.l 53), true)⟩, [4]),
     (⟨(.l 58), .load 3 true (.l 57), some ((.l 53), true)⟩, [4]),
     (⟨(.l 59), .mv (.p 0), some ((.l 53), true)⟩, [4, 5, 6, 7, 8]),
     (⟨(.l 60), .mv (.p 1), some ((.l 53), true)⟩, [4, 5, 6, 7, 8, 9]),
     (⟨(.l 61), .iaddr none 3 (.l 59) (.l 60), some ((.l 53), true)⟩, [4, 5, 6, 7, 8]),
     (⟨(.l 62), .load 3 true (.l 61), some ((.l 53), true)⟩, [4, 5, 6, 7, 8]),
     (⟨(.l 63), .call (.l 54) [(.l 58), (.l 62)], some ((.l 53), true)⟩, []),
     (⟨(.l 64), .bin .lss (.l 63) (.c (.int .i64 (0))), some ((.l 53), true)⟩, []),
     (⟨(.l 65), .un .not (.l 64), some ((.l 53), true)⟩, []),
     (⟨(.l 66), .pick (.l 53) (.l 65) (.c (.bool false)), none⟩, [])])
   (.cond (.l 66)
    (.skip)
    (.exit 2)))
  (.block 3
   (.region [⟨(.l 67), .mv (.p 8), none⟩,
     ⟨(.l 68), .bin .sub (.l 67) (.c (.int .i64 (1))), none⟩,
     ⟨(.p 8), .mv (.l 68), none⟩]))
def b238_2 : ICode :=
 .seq (.seq (.draw [(⟨(.l 105), .mv (.p 7), none⟩, []),
     (⟨(.l 106), .mv (.p 8), none⟩, [0]),
     (⟨(.l 107), .bin .leq (.l 105) (.l 106), none⟩, []),
     (⟨(.l 108), .mv (.l 107), none⟩, []),
     (⟨(.l 109), .mv (.p 4), some ((.l 108), true)⟩, []),
     (⟨(.l 110), .mv (.p 0), some ((.l 108), true)⟩, [4]),
     (⟨(.l 111), .mv (.p 7), some ((.l 108), true)⟩, [4, 5]),
     (⟨(.l 112), .iaddr none 3 (.l 110) (.l 111), some ((.l 108), true)⟩, [4]),
     (⟨(.l 113), .load 3 true (.l 112), some ((.l 108), true)⟩, [4]),
     (⟨(.l 114), .mv (.p 0), some ((.l 108), true)⟩, [4, 5, 6, 7, 8]),
     (⟨(.l 115), .mv (.p 1), some ((.l 108), true)⟩, [4, 5, 6, 7, 8, 9]),
     (⟨(.l 116), .iaddr none 3 (.l 114) (.l 115), some ((.l 108), true)⟩, [4, 5, 6, 7, 8]),
     (⟨(.l 117), .load 3 true (.l 116), some ((.l 108), true)⟩, [4, 5, 6, 7, 8]),
     (⟨(.l 118), .call (.l 109) [(.l 113), (.l 117)], some ((.l 108), true)⟩, []),
     (⟨(.l 119), .bin .lss (.l 118) (.c (.int .i64 (0))), some ((.l 108), true)⟩, []),
     (⟨(.l 120), .pick (.l 108) (.l 119) (.c (.bool false)), none⟩, [])])
   (.cond (.l 120)
    (.skip)
    (.exit 6)))
  (.block 7
   (.region [⟨(.l 121), .mv (.p 7), none⟩,
     ⟨(.l 122), .bin .add (.l 121) (.c (.int .i64 (1))), none⟩,
     ⟨(.p 7), .mv (.l 122), none⟩]))
def b238_3 : ICode :=
 .seq (.seq (.draw [(⟨(.l 123), .mv (.p 7), none⟩, []),
     (⟨(.l 124), .mv (.p 8), none⟩, [0]),
     (⟨(.l 125), .bin .leq (.l 123) (.l 124), none⟩, []),
     (⟨(.l 126), .mv (.l 125), none⟩, []),
     (⟨(.l 127), .mv (.p 4), some ((.l 126), true)⟩, []),
     (⟨(.l 128), .mv (.p 0), some ((.l 126), true)⟩, [4]),
     (⟨(.l 129), .mv (.p 8), some ((.l 126), true)⟩, [4, 5]),
     (⟨(.l 130), .iaddr none 3 (.l 128) (.l 129), some ((.l 126), true)⟩, [4]),
     (⟨(.l 131), .load 3 true (.l 130), some ((.l 126), true)⟩, [4]),
     (⟨(.l 132), .mv (.p 0), some ((.l 126), true)⟩, [4, 5, 6, 7, 8]),
     (⟨(.l 133), .mv (.p 1), some ((.l 126), true)⟩, [4, 5, 6, 7, 8, 9]),
     (⟨(.l 134), .iaddr none 3 (.l 132) (.l 133), some ((.l 126), true)⟩, [4, 5, 6, 7, 8]),
     (⟨(.l 135), .load 3 true (.l 134), some ((.l 126), true)⟩, [4, 5, 6, 7, 8]),
     (⟨(.l 136), .call (.l 127) [(.l 131), (.l 135)], some ((.l 126), true)⟩, []),
     (⟨(.l 137), .bin .lss (.l 136) (.c (.int .i64 (0))), some ((.l 126), true)⟩, []),
     (⟨(.l 138), .un .not (.l 137), some ((.l 126), true)⟩, []),
     (⟨(.l 139), .pick (.l 126) (.l 138) (.c (.bool false)), none⟩, [])])
   (.cond (.l 139)
    (.skip)
    (.exit 8)))
  (.block 9
   (.region [⟨(.l 140), .mv (.p 8), none⟩,
     ⟨(.l 141), .bin .sub (.l 140) (.c (.int .i64 (1))), none⟩,
     ⟨(.p 8), .mv (.l 141), none⟩]))
def b238_4 : ICode :=
 .block 5
  (.seq (.block 6
    (.loop b238_2))
   (.seq (.block 8
     (.loop b238_3))
    (.seq (.seq (.region [⟨(.l 142), .mv (.p 7), none⟩,
        ⟨(.l 143), .mv (.p 8), none⟩,
        ⟨(.l 144), .bin .gtr (.l 142) (.l 143), none⟩])
      (.cond (.l 144)
       (.exit 4)
       (.skip)))
     (.seq (.draw [(⟨(.l 145), .mv (.p 0), none⟩, []),
        (⟨(.l 146), .mv (.p 7), none⟩, [0]),
        (⟨(.l 147), .mv (.p 0), none⟩, [0, 1]),
        (⟨(.l 148), .mv (.p 8), none⟩, [0, 1, 2]),
        (⟨(.l 149), .mv (.p 0), none⟩, [0, 1, 2, 3]),
        (⟨(.l 150), .mv (.p 8), none⟩, [0, 1, 2, 3, 4]),
        (⟨(.l 151), .iaddr none 3 (.l 149) (.l 150), none⟩, [0, 1, 2, 3]),
        (⟨(.l 152), .load 3 true (.l 151), none⟩, [0, 1, 2, 3]),
        (⟨(.l 153), .mv (.p 0), none⟩, [0, 1, 2, 3, 4, 5, 6, 7]),
        (⟨(.l 154), .mv (.p 7), none⟩, [0, 1, 2, 3, 4, 5, 6, 7, 8]),
        (⟨(.l 155), .iaddr none 3 (.l 153) (.l 154), none⟩, [0, 1, 2, 3, 4, 5, 6, 7]),
        (⟨(.l 156), .load 3 true (.l 155), none⟩, [0, 1, 2, 3, 4, 5, 6, 7]),
        (⟨(.l 157), .iaddr none 3 (.l 145) (.l 146), none⟩, [2, 3]),
        (⟨.no, .store 3 (.l 157) (.l 152), none⟩, [2, 3]),
        (⟨(.l 158), .iaddr none 3 (.l 147) (.l 148), none⟩, []),
        (⟨.no, .store 3 (.l 158) (.l 156), none⟩, [])])
      (.seq (.region [⟨(.l 159), .mv (.p 7), none⟩,
         ⟨(.l 160), .bin .add (.l 159) (.c (.int .i64 (1))), none⟩,
         ⟨(.p 7), .mv (.l 160), none⟩])
       (.region [⟨(.l 161), .mv (.p 8), none⟩,
         ⟨(.l 162), .bin .sub (.l 161) (.c (.int .i64 (1))), none⟩,
         ⟨(.p 8), .mv (.l 162), none⟩]))))))
/-- slices.partitionCmpFunc[stadion/api.Mark] -/
def b238 : ICode :=
 .seq (.region [⟨(.p 5), .mv (.c (.int .i64 (0))), none⟩,
    ⟨(.p 6), .mv (.c (.bool false)), none⟩])
  (.seq (.draw [(⟨(.l 14), .mv (.p 0), none⟩, []),
     (⟨(.l 15), .mv (.p 1), none⟩, [0]),
     (⟨(.l 16), .mv (.p 0), none⟩, [0, 1]),
     (⟨(.l 17), .mv (.p 3), none⟩, [0, 1, 2]),
     (⟨(.l 18), .mv (.p 0), none⟩, [0, 1, 2, 3]),
     (⟨(.l 19), .mv (.p 3), none⟩, [0, 1, 2, 3, 4]),
     (⟨(.l 20), .iaddr none 3 (.l 18) (.l 19), none⟩, [0, 1, 2, 3]),
     (⟨(.l 21), .load 3 true (.l 20), none⟩, [0, 1, 2, 3]),
     (⟨(.l 22), .mv (.p 0), none⟩, [0, 1, 2, 3, 4, 5, 6, 7]),
     (⟨(.l 23), .mv (.p 1), none⟩, [0, 1, 2, 3, 4, 5, 6, 7, 8]),
     (⟨(.l 24), .iaddr none 3 (.l 22) (.l 23), none⟩, [0, 1, 2, 3, 4, 5, 6, 7]),
     (⟨(.l 25), .load 3 true (.l 24), none⟩, [0, 1, 2, 3, 4, 5, 6, 7]),
     (⟨(.l 26), .iaddr none 3 (.l 14) (.l 15), none⟩, [2, 3]),
     (⟨.no, .store 3 (.l 26) (.l 21), none⟩, [2, 3]),
     (⟨(.l 27), .iaddr none 3 (.l 16) (.l 17), none⟩, []),
     (⟨.no, .store 3 (.l 27) (.l 25), none⟩, [])])
   (.seq (.region [⟨(.l 28), .mv (.p 1), none⟩,
      ⟨(.l 29), .bin .add (.l 28) (.c (.int .i64 (1))), none⟩,
      ⟨(.l 30), .mv (.p 2), none⟩,
      ⟨(.l 31), .bin .sub (.l 30) (.c (.int .i64 (1))), none⟩,
      ⟨(.p 7), .mv (.l 29), none⟩,
      ⟨(.p 8), .mv (.l 31), none⟩])
    (.seq (.block 0
      (.loop b238_0))
     (.seq (.block 2
       (.loop b238_1))
      (.seq (.seq (.region [⟨(.l 69), .mv (.p 7), none⟩,
          ⟨(.l 70), .mv (.p 8), none⟩,
          ⟨(.l 71), .bin .gtr (.l 69) (.l 70), none⟩])
        (.cond (.l 71)
         (.seq (.draw [(⟨(.l 72), .mv (.p 0), none⟩, []),
            (⟨(.l 73), .mv (.p 8), none⟩, [0]),
            (⟨(.l 74), .mv (.p 0), none⟩, [0, 1]),
            (⟨(.l 75), .mv (.p 1), none⟩, [0, 1, 2]),
            (⟨(.l 76), .mv (.p 0), none⟩, [0, 1, 2, 3]),
            (⟨(.l 77), .mv (.p 1), none⟩, [0, 1, 2, 3, 4]),
            (⟨(.l 78), .iaddr none 3 (.l 76) (.l 77), none⟩, [0, 1, 2, 3]),
            (⟨(.l 79), .load 3 true (.l 78), none⟩, [0, 1, 2, 3]),
            (⟨(.l 80), .mv (.p 0), none⟩, [0, 1, 2, 3, 4, 5, 6, 7]),
            (⟨(.l 81), .mv (.p 8), none⟩, [0, 1, 2, 3, 4, 5, 6, 7, 8]),
            (⟨(.l 82), .iaddr none 3 (.l 80) (.l 81), none⟩, [0, 1, 2, 3, 4, 5, 6, 7]),
            (⟨(.l 83), .load 3 true (.l 82), none⟩, [0, 1, 2, 3, 4, 5, 6, 7]),
            (⟨(.l 84), .iaddr none 3 (.l 72) (.l 73), none⟩, [2, 3]),
            (⟨.no, .store 3 (.l 84) (.l 79), none⟩, [2, 3]),
            (⟨(.l 85), .iaddr none 3 (.l 74) (.l 75), none⟩, []),
            (⟨.no, .store 3 (.l 85) (.l 83), none⟩, [])])
          (.seq (.region [⟨(.l 86), .mv (.p 8), none⟩,
             ⟨(.p 5), .mv (.l 86), none⟩,
             ⟨(.p 6), .mv (.c (.bool true)), none⟩])
           (.ret)))
         (.skip)))
       (.seq (.draw [(⟨(.l 87), .mv (.p 0), none⟩, []),
          (⟨(.l 88), .mv (.p 7), none⟩, [0]),
          (⟨(.l 89), .mv (.p 0), none⟩, [0, 1]),
          (⟨(.l 90), .mv (.p 8), none⟩, [0, 1, 2]),
          (⟨(.l 91), .mv (.p 0), none⟩, [0, 1, 2, 3]),
          (⟨(.l 92), .mv (.p 8), none⟩, [0, 1, 2, 3, 4]),
          (⟨(.l 93), .iaddr none 3 (.l 91) (.l 92), none⟩, [0, 1, 2, 3]),
          (⟨(.l 94), .load 3 true (.l 93), none⟩, [0, 1, 2, 3]),
          (⟨(.l 95), .mv (.p 0), none⟩, [0, 1, 2, 3, 4, 5, 6, 7]),
          (⟨(.l 96), .mv (.p 7), none⟩, [0, 1, 2, 3, 4, 5, 6, 7, 8]),
          (⟨(.l 97), .iaddr none 3 (.l 95) (.l 96), none⟩, [0, 1, 2, 3, 4, 5, 6, 7]),
          (⟨(.l 98), .load 3 true (.l 97), none⟩, [0, 1, 2, 3, 4, 5, 6, 7]),
          (⟨(.l 99), .iaddr none 3 (.l 87) (.l 88), none⟩, [2, 3]),
          (⟨.no, .store 3 (.l 99) (.l 94), none⟩, [2, 3]),
          (⟨(.l 100), .iaddr none 3 (.l 89) (.l 90), none⟩, []),
          (⟨.no, .store 3 (.l 100) (.l 98), none⟩, [])])
        (.seq (.region [⟨(.l 101), .mv (.p 7), none⟩,
           ⟨(.l 102), .bin .add (.l 101) (.c (.int .i64 (1))), none⟩,
           ⟨(.p 7), .mv (.l 102), none⟩])
         (.seq (.region [⟨(.l 103), .mv (.p 8), none⟩,
            ⟨(.l 104), .bin .sub (.l 103) (.c (.int .i64 (1))), none⟩,
            ⟨(.p 8), .mv (.l 104), none⟩])
          (.seq (.block 4
            (.loop b238_4))
           (.seq (.draw [(⟨(.l 163), .mv (.p 0), none⟩, []),
              (⟨(.l 164), .mv (.p 8), none⟩, [0]),
              (⟨(.l 165), .mv (.p 0), none⟩, [0, 1]),
              (⟨(.l 166), .mv (.p 1), none⟩, [0, 1, 2]),
              (⟨(.l 167), .mv (.p 0), none⟩, [0, 1, 2, 3]),
              (⟨(.l 168), .mv (.p 1), none⟩, [0, 1, 2, 3, 4]),
              (⟨(.l 169), .iaddr none 3 (.l 167) (.l 168), none⟩, [0, 1, 2, 3]),
              (⟨(.l 170), .load 3 true (.l 169), none⟩, [0, 1, 2, 3]),
              (⟨(.l 171), .mv (.p 0), none⟩, [0, 1, 2, 3, 4, 5, 6, 7]),
              (⟨(.l 172), .mv (.p 8), none⟩, [0, 1, 2, 3, 4, 5, 6, 7, 8]),
              (⟨(.l 173), .iaddr none 3 (.l 171) (.l 172), none⟩, [0, 1, 2, 3, 4, 5, 6, 7]),
              (⟨(.l 174), .load 3 true (.l 173), none⟩, [0, 1, 2, 3, 4, 5, 6, 7]),
              (⟨(.l 175), .iaddr none 3 (.l 163) (.l 164), none⟩, [2, 3]),
              (⟨.no, .store 3 (.l 175) (.l 170), none⟩, [2, 3]),
              (⟨(.l 176), .iaddr none 3 (.l 165) (.l 166), none⟩, []),
              (⟨.no, .store 3 (.l 176) (.l 174), none⟩, [])])
            (.seq (.region [⟨(.l 177), .mv (.p 8), none⟩,
               ⟨(.p 5), .mv (.l 177), none⟩,
               ⟨(.p 6), .mv (.c (.bool false)), none⟩])
             (.ret))))))))))))
theorem ft238 : FT 238 = some ⟨178, [0, 1, 2, 3, 4, 10, 11, 12, 13], [.var (.p 5), .var (.p 6)], b238⟩ := by kernel_rfl

def b237_0 : ICode :=
 .seq (.seq (.draw [(⟨(.l 31), .mv (.p 6), none⟩, []),
     (⟨(.l 32), .mv (.p 7), none⟩, [0]),
     (⟨(.l 33), .bin .leq (.l 31) (.l 32), none⟩, []),
     (⟨(.l 34), .mv (.l 33), none⟩, []),
     (⟨(.l 35), .mv (.p 4), some ((.l 34), true)⟩, []),
     (⟨(.l 36), .mv (.p 0), some ((.l 34), true)⟩, [4]),
     (⟨(.l 37), .mv (.p 1), some ((.l 34), true)⟩, [4, 5]),
     (⟨(.l 38), .iaddr none 3 (.l 36) (.l 37), some ((.l 34), true)⟩, [4]),
     (⟨(.l 39), .load 3 true (.l 38), some ((.l 34), true)⟩, [4]),
     (⟨(.l 40), .mv (.p 0), some ((.l 34), true)⟩, [4, 5, 6, 7, 8]),
     (⟨(.l 41), .mv (.p 6), some ((.l 34), true)⟩, [4, 5, 6, 7, 8, 9]),
     (⟨(.l 42), .iaddr none 3 (.l 40) (.l 41), some ((.l 34), true)⟩, [4, 5, 6, 7, 8]),
     (⟨(.l 43), .load 3 true (.l 42), some ((.l 34), true)⟩, [4, 5, 6, 7, 8]),
     (⟨(.l 44), .call (.l 35) [(.l 39), (.l 43)], some ((.l 34), true)⟩, []),
     (⟨(.l 45), .bin .lss (.l 44) (.c (.int .i64 (0))), some ((.l 34), true)⟩, []),
     (⟨(.l 46), .un .not (.l 45), some ((.l 34), true)⟩, []),
     (⟨(.l 47), .pick (.l 34) (.l 46) (.c (.bool false)), none⟩, [])])
   (.cond (.l 47)
    (.skip)
    (.exit 2)))
  (.block 3
   (.region [⟨(.l 48), .mv (.p 6), none⟩,
     ⟨(.l 49), .bin .add (.l 48) (.c (.int .i64 (1))), none⟩,
     ⟨(.p 6), .mv (.l 49), none⟩]))
def b237_1 : ICode :=
 .seq (.seq (.draw [(⟨(.l 50), .mv (.p 6), none⟩, []),
     (⟨(.l 51), .mv (.p 7), none⟩, [0]),
     (⟨(.l 52), .bin .leq (.l 50) (.l 51), none⟩, []),
     (⟨(.l 53), .mv (.l 52), none⟩, []),
     (⟨(.l 54), .mv (.p 4), some ((.l 53), true)⟩, []),
     (⟨(.l 55), .mv (.p 0), some ((.l 53), true)⟩, [4]),
     (⟨(.l 56), .mv (.p 1), some ((.l 53), true)⟩, [4, 5]),
     (⟨(.l 57), .iaddr none 3 (.l 55) (.l 56), some ((.l 53), true)⟩, [4]),
     (⟨(.l 58), .load 3 true (.l 57), some ((.l 53), true)⟩, [4]),
     (⟨(.l 59), .mv (.p 0), some ((.l 53), true)⟩, [4, 5, 6, 7, 8]),
     (⟨(.l 60), .mv (.p 7), some ((.l 53), true)⟩, [4, 5, 6, 7, 8, 9]),
     (⟨(.l 61), .iaddr none 3 (.l 59) (.l 60), some ((.l 53), true)⟩, [4, 5, 6, 7, 8]),
     (⟨(.l 62), .load 3 true (.l 61), some ((.l 53), true)⟩, [4, 5, 6, 7, 8]),
     (⟨(.l 63), .call (.l 54) [(.l 58), (.l 62)], some ((.l 53), true)⟩, []),
     (⟨(.l 64), .bin .lss (.l 63) (.c (.int .i64 (0))), some ((.l 53), true)⟩, []),
     (⟨(.l 65), .pick (.l 53) (.l 64) (.c (.bool false)), none⟩, [])])
   (.cond (.l 65)
    (.skip)
    (.exit 4)))
  (.block 5
   (.region [⟨(.l 66), .mv (.p 7), none⟩,
     ⟨(.l 67), .bin .sub (.l 66) (.c (.int .i64 (1))), none⟩,
     ⟨(.p 7), .mv (.l 67), none⟩]))
def b237_2 : ICode :=
 .block 1
  (.seq (.block 2
    (.loop b237_0))
   (.seq (.block 4
     (.loop b237_1))
    (.seq (.seq (.region [⟨(.l 68), .mv (.p 6), none⟩,
        ⟨(.l 69), .mv (.p 7), none⟩,
        ⟨(.l 70), .bin .gtr (.l 68) (.l 69), none⟩])
      (.cond (.l 70)
       (.exit 0)
       (.skip)))
     (.seq (.draw [(⟨(.l 71), .mv (.p 0), none⟩, []),
        (⟨(.l 72), .mv (.p 6), none⟩, [0]),
        (⟨(.l 73), .mv (.p 0), none⟩, [0, 1]),
        (⟨(.l 74), .mv (.p 7), none⟩, [0, 1, 2]),
        (⟨(.l 75), .mv (.p 0), none⟩, [0, 1, 2, 3]),
        (⟨(.l 76), .mv (.p 7), none⟩, [0, 1, 2, 3, 4]),
        (⟨(.l 77), .iaddr none 3 (.l 75) (.l 76), none⟩, [0, 1, 2, 3]),
        (⟨(.l 78), .load 3 true (.l 77), none⟩, [0, 1, 2, 3]),
        (⟨(.l 79), .mv (.p 0), none⟩, [0, 1, 2, 3, 4, 5, 6, 7]),
        (⟨(.l 80), .mv (.p 6), none⟩, [0, 1, 2, 3, 4, 5, 6, 7, 8]),
        (⟨(.l 81), .iaddr none 3 (.l 79) (.l 80), none⟩, [0, 1, 2, 3, 4, 5, 6, 7]),
        (⟨(.l 82), .load 3 true (.l 81), none⟩, [0, 1, 2, 3, 4, 5, 6, 7]),
        (⟨(.l 83), .iaddr none 3 (.l 71) (.l 72), none⟩, [2, 3]),
        (⟨.no, .store 3 (.l 83) (.l 78), none⟩, [2, 3]),
        (⟨(.l 84), .iaddr none 3 (.l 73) (.l 74), none⟩, []),
        (⟨.no, .store 3 (.l 84) (.l 82), none⟩, [])])
      (.seq (.region [⟨(.l 85), .mv (.p 6), none⟩,
         ⟨(.l 86), .bin .add (.l 85) (.c (.int .i64 (1))), none⟩,
         ⟨(.p 6), .mv (.l 86), none⟩])
       (.region [⟨(.l 87), .mv (.p 7), none⟩,
         ⟨(.l 88), .bin .sub (.l 87) (.c (.int .i64 (1))), none⟩,
         ⟨(.p 7), .mv (.l 88), none⟩]))))))
/-- slices.partitionEqualCmpFunc[stadion/api.Mark] -/
def b237 : ICode :=
 .seq (.region [⟨(.p 5), .mv (.c (.int .i64 (0))), none⟩])
  (.seq (.draw [(⟨(.l 13), .mv (.p 0), none⟩, []),
     (⟨(.l 14), .mv (.p 1), none⟩, [0]),
     (⟨(.l 15), .mv (.p 0), none⟩, [0, 1]),
     (⟨(.l 16), .mv (.p 3), none⟩, [0, 1, 2]),
     (⟨(.l 17), .mv (.p 0), none⟩, [0, 1, 2, 3]),
     (⟨(.l 18), .mv (.p 3), none⟩, [0, 1, 2, 3, 4]),
     (⟨(.l 19), .iaddr none 3 (.l 17) (.l 18), none⟩, [0, 1, 2, 3]),
     (⟨(.l 20), .load 3 true (.l 19), none⟩, [0, 1, 2, 3]),
     (⟨(.l 21), .mv (.p 0), none⟩, [0, 1, 2, 3, 4, 5, 6, 7]),
     (⟨(.l 22), .mv (.p 1), none⟩, [0, 1, 2, 3, 4, 5, 6, 7, 8]),
     (⟨(.l 23), .iaddr none 3 (.l 21) (.l 22), none⟩, [0, 1, 2, 3, 4, 5, 6, 7]),
     (⟨(.l 24), .load 3 true (.l 23), none⟩, [0, 1, 2, 3, 4, 5, 6, 7]),
     (⟨(.l 25), .iaddr none 3 (.l 13) (.l 14), none⟩, [2, 3]),
     (⟨.no, .store 3 (.l 25) (.l 20), none⟩, [2, 3]),
     (⟨(.l 26), .iaddr none 3 (.l 15) (.l 16), none⟩, []),
     (⟨.no, .store 3 (.l 26) (.l 24), none⟩, [])])
   (.seq (.region [⟨(.l 27), .mv (.p 1), none⟩,
      ⟨(.l 28), .bin .add (.l 27) (.c (.int .i64 (1))), none⟩,
      ⟨(.l 29), .mv (.p 2), none⟩,
      ⟨(.l 30), .bin .sub (.l 29) (.c (.int .i64 (1))), none⟩,
      ⟨(.p 6), .mv (.l 28), none⟩,
      ⟨(.p 7), .mv (.l 30), none⟩])
    (.seq (.block 0
      (.loop b237_2))
     (.seq (.region [⟨(.l 89), .mv (.p 6), none⟩,
        ⟨(.p 5), .mv (.l 89), none⟩])
      (.ret)))))
theorem ft237 : FT 237 = some ⟨90, [0, 1, 2, 3, 4, 10, 11, 12], [.var (.p 5)], b237⟩ := by kernel_rfl

def b236_0 : ICode :=
 .seq (.seq (.draw [(⟨(.l 19), .mv (.p 5), none⟩, []),
     (⟨(.l 20), .mv (.p 2), none⟩, [0]),
     (⟨(.l 21), .bin .lss (.l 19) (.l 20), none⟩, []),
     (⟨(.l 22), .mv (.l 21), none⟩, []),
     (⟨(.l 23), .mv (.p 3), some ((.l 22), true)⟩, []),
     (⟨(.l 24), .mv (.p 0), some ((.l 22), true)⟩, [4]),
     (⟨(.l 25), .mv (.p 5), some ((.l 22), true)⟩, [4, 5]),
     (⟨(.l 26), .iaddr none 3 (.l 24) (.l 25), some ((.l 22), true)⟩, [4]),
     (⟨(.l 27), .load 3 true (.l 26), some ((.l 22), true)⟩, [4]),
     (⟨(.l 28), .mv (.p 0), some ((.l 22), true)⟩, [4, 5, 6, 7, 8]),
     (⟨(.l 29), .mv (.p 5), some ((.l 22), true)⟩, [4, 5, 6, 7, 8, 9]),
     (⟨(.l 30), .bin .sub (.l 29) (.c (.int .i64 (1))), some ((.l 22), true)⟩, [4, 5, 6, 7, 8, 9]),
     (⟨(.l 31), .iaddr none 3 (.l 28) (.l 30), some ((.l 22), true)⟩, [4, 5, 6, 7, 8]),
     (⟨(.l 32), .load 3 true (.l 31), some ((.l 22), true)⟩, [4, 5, 6, 7, 8]),
     (⟨(.l 33), .call (.l 23) [(.l 27), (.l 32)], some ((.l 22), true)⟩, []),
     (⟨(.l 34), .bin .lss (.l 33) (.c (.int .i64 (0))), some ((.l 22), true)⟩, []),
     (⟨(.l 35), .un .not (.l 34), some ((.l 22), true)⟩, []),
     (⟨(.l 36), .pick (.l 22) (.l 35) (.c (.bool false)), none⟩, [])])
   (.cond (.l 36)
    (.skip)
    (.exit 2)))
  (.block 3
   (.region [⟨(.l 37), .mv (.p 5), none⟩,
     ⟨(.l 38), .bin .add (.l 37) (.c (.int .i64 (1))), none⟩,
     ⟨(.p 5), .mv (.l 38), none⟩]))
def b236_1 : ICode :=
 .seq (.seq (.region [⟨(.l 68), .mv (.p 7), none⟩,
     ⟨(.l 69), .bin .geq (.l 68) (.c (.int .i64 (1))), none⟩])
   (.cond (.l 69)
    (.skip)
    (.exit 4)))
  (.seq (.block 5
    (.seq (.seq (.draw [(⟨(.l 72), .mv (.p 3), none⟩, []),
        (⟨(.l 73), .mv (.p 0), none⟩, [0]),
        (⟨(.l 74), .mv (.p 7), none⟩, [0, 1]),
        (⟨(.l 75), .iaddr none 3 (.l 73) (.l 74), none⟩, [0]),
        (⟨(.l 76), .load 3 true (.l 75), none⟩, [0]),
        (⟨(.l 77), .mv (.p 0), none⟩, [0, 1, 2, 3, 4]),
        (⟨(.l 78), .mv (.p 7), none⟩, [0, 1, 2, 3, 4, 5]),
        (⟨(.l 79), .bin .sub (.l 78) (.c (.int .i64 (1))), none⟩, [0, 1, 2, 3, 4, 5]),
        (⟨(.l 80), .iaddr none 3 (.l 77) (.l 79), none⟩, [0, 1, 2, 3, 4]),
        (⟨(.l 81), .load 3 true (.l 80), none⟩, [0, 1, 2, 3, 4]),
        (⟨(.l 82), .call (.l 72) [(.l 76), (.l 81)], none⟩, []),
        (⟨(.l 83), .bin .lss (.l 82) (.c (.int .i64 (0))), none⟩, []),
        (⟨(.l 84), .un .not (.l 83), none⟩, [])])
      (.cond (.l 84)
       (.exit 4)
       (.skip)))
     (.draw [(⟨(.l 85), .mv (.p 0), none⟩, []),
       (⟨(.l 86), .mv (.p 7), none⟩, [0]),
       (⟨(.l 87), .mv (.p 0), none⟩, [0, 1]),
       (⟨(.l 88), .mv (.p 7), none⟩, [0, 1, 2]),
       (⟨(.l 89), .bin .sub (.l 88) (.c (.int .i64 (1))), none⟩, [0, 1, 2]),
       (⟨(.l 90), .mv (.p 0), none⟩, [0, 1, 2, 3, 4]),
       (⟨(.l 91), .mv (.p 7), none⟩, [0, 1, 2, 3, 4, 5]),
       (⟨(.l 92), .bin .sub (.l 91) (.c (.int .i64 (1))), none⟩, [0, 1, 2, 3, 4, 5]),
       (⟨(.l 93), .iaddr none 3 (.l 90) (.l 92), none⟩, [0, 1, 2, 3, 4]),
       (⟨(.l 94), .load 3 true (.l 93), none⟩, [0, 1, 2, 3, 4]),
       (⟨(.l 95), .mv (.p 0), none⟩, [0, 1, 2, 3, 4, 5, 6, 7, 8, 9]),
       (⟨(.l 96), .mv (.p 7), none⟩, [0, 1, 2, 3, 4, 5, 6, 7, 8, 9, 10]),
       (⟨(.l 97), .iaddr none 3 (.l 95) (.l 96), none⟩, [0, 1, 2, 3, 4, 5, 6, 7, 8, 9]),
       (⟨(.l 98), .load 3 true (.l 97), none⟩, [0, 1, 2, 3, 4, 5, 6, 7, 8, 9]),
       (⟨(.l 99), .iaddr none 3 (.l 85) (.l 86), none⟩, [2, 3, 4]),
       (⟨.no, .store 3 (.l 99) (.l 94), none⟩, [2, 3, 4]),
       (⟨(.l 100), .iaddr none 3 (.l 87) (.l 89), none⟩, []),
       (⟨.no, .store 3 (.l 100) (.l 98), none⟩, [])])))
   (.region [⟨(.l 70), .mv (.p 7), none⟩,
     ⟨(.l 71), .bin .sub (.l 70) (.c (.int .i64 (1))), none⟩,
     ⟨(.p 7), .mv (.l 71), none⟩]))
def b236_2 : ICode :=
 .seq (.seq (.region [⟨(.l 107), .mv (.p 8), none⟩,
     ⟨(.l 108), .mv (.p 2), none⟩,
     ⟨(.l 109), .bin .lss (.l 107) (.l 108), none⟩])
   (.cond (.l 109)
    (.skip)
    (.exit 6)))
  (.seq (.block 7
    (.seq (.seq (.draw [(⟨(.l 112), .mv (.p 3), none⟩, []),
        (⟨(.l 113), .mv (.p 0), none⟩, [0]),
        (⟨(.l 114), .mv (.p 8), none⟩, [0, 1]),
        (⟨(.l 115), .iaddr none 3 (.l 113) (.l 114), none⟩, [0]),
        (⟨(.l 116), .load 3 true (.l 115), none⟩, [0]),
        (⟨(.l 117), .mv (.p 0), none⟩, [0, 1, 2, 3, 4]),
        (⟨(.l 118), .mv (.p 8), none⟩, [0, 1, 2, 3, 4, 5]),
        (⟨(.l 119), .bin .sub (.l 118) (.c (.int .i64 (1))), none⟩, [0, 1, 2, 3, 4, 5]),
        (⟨(.l 120), .iaddr none 3 (.l 117) (.l 119), none⟩, [0, 1, 2, 3, 4]),
        (⟨(.l 121), .load 3 true (.l 120), none⟩, [0, 1, 2, 3, 4]),
        (⟨(.l 122), .call (.l 112) [(.l 116), (.l 121)], none⟩, []),
        (⟨(.l 123), .bin .lss (.l 122) (.c (.int .i64 (0))), none⟩, []),
        (⟨(.l 124), .un .not (.l 123), none⟩, [])])
      (.cond (.l 124)
       (.exit 6)
       (.skip)))
     (.draw [(⟨(.l 125), .mv (.p 0), none⟩, []),
       (⟨(.l 126), .mv (.p 8), none⟩, [0]),
       (⟨(.l 127), .mv (.p 0), none⟩, [0, 1]),
       (⟨(.l 128), .mv (.p 8), none⟩, [0, 1, 2]),
       (⟨(.l 129), .bin .sub (.l 128) (.c (.int .i64 (1))), none⟩, [0, 1, 2]),
       (⟨(.l 130), .mv (.p 0), none⟩, [0, 1, 2, 3, 4]),
       (⟨(.l 131), .mv (.p 8), none⟩, [0, 1, 2, 3, 4, 5]),
       (⟨(.l 132), .bin .sub (.l 131) (.c (.int .i64 (1))), none⟩, [0, 1, 2, 3, 4, 5]),
       (⟨(.l 133), .iaddr none 3 (.l 130) (.l 132), none⟩, [0, 1, 2, 3, 4]),
       (⟨(.l 134), .load 3 true (.l 133), none⟩, [0, 1, 2, 3, 4]),
       (⟨(.l 135), .mv (.p 0), none⟩, [0, 1, 2, 3, 4, 5, 6, 7, 8, 9]),
       (⟨(.l 136), .mv (.p 8), none⟩, [0, 1, 2, 3, 4, 5, 6, 7, 8, 9, 10]),
       (⟨(.l 137), .iaddr none 3 (.l 135) (.l 136), none⟩, [0, 1, 2, 3, 4, 5, 6, 7, 8, 9]),
       (⟨(.l 138), .load 3 true (.l 137), none⟩, [0, 1, 2, 3, 4, 5, 6, 7, 8, 9]),
       (⟨(.l 139), .iaddr none 3 (.l 125) (.l 126), none⟩, [2, 3, 4]),
       (⟨.no, .store 3 (.l 139) (.l 134), none⟩, [2, 3, 4]),
       (⟨(.l 140), .iaddr none 3 (.l 127) (.l 129), none⟩, []),
       (⟨.no, .store 3 (.l 140) (.l 138), none⟩, [])])))
   (.region [⟨(.l 110), .mv (.p 8), none⟩,
     ⟨(.l 111), .bin .add (.l 110) (.c (.int .i64 (1))), none⟩,
     ⟨(.p 8), .mv (.l 111), none⟩]))
def b236_3 : ICode :=
 .seq (.seq (.region [⟨(.l 15), .mv (.p 6), none⟩,
     ⟨(.l 16), .bin .lss (.l 15) (.c (.int .i64 (5))), none⟩])
   (.cond (.l 16)
    (.skip)
    (.exit 0)))
  (.seq (.block 1
    (.seq (.block 2
      (.loop b236_0))
     (.seq (.seq (.region [⟨(.l 39), .mv (.p 5), none⟩,
         ⟨(.l 40), .mv (.p 2), none⟩,
         ⟨(.l 41), .bin .eql (.l 39) (.l 40), none⟩])
       (.cond (.l 41)
        (.seq (.region [⟨(.p 4), .mv (.c (.bool true)), none⟩])
         (.ret))
        (.skip)))
      (.seq (.seq (.region [⟨(.l 42), .mv (.p 2), none⟩,
          ⟨(.l 43), .mv (.p 1), none⟩,
          ⟨(.l 44), .bin .sub (.l 42) (.l 43), none⟩,
          ⟨(.l 45), .bin .lss (.l 44) (.c (.int .i64 (50))), none⟩])
        (.cond (.l 45)
         (.seq (.region [⟨(.p 4), .mv (.c (.bool false)), none⟩])
          (.ret))
         (.skip)))
       (.seq (.draw [(⟨(.l 46), .mv (.p 0), none⟩, []),
          (⟨(.l 47), .mv (.p 5), none⟩, [0]),
          (⟨(.l 48), .mv (.p 0), none⟩, [0, 1]),
          (⟨(.l 49), .mv (.p 5), none⟩, [0, 1, 2]),
          (⟨(.l 50), .bin .sub (.l 49) (.c (.int .i64 (1))), none⟩, [0, 1, 2]),
          (⟨(.l 51), .mv (.p 0), none⟩, [0, 1, 2, 3, 4]),
          (⟨(.l 52), .mv (.p 5), none⟩, [0, 1, 2, 3, 4, 5]),
          (⟨(.l 53), .bin .sub (.l 52) (.c (.int .i64 (1))), none⟩, [0, 1, 2, 3, 4, 5]),
          (⟨(.l 54), .iaddr none 3 (.l 51) (.l 53), none⟩, [0, 1, 2, 3, 4]),
          (⟨(.l 55), .load 3 true (.l 54), none⟩, [0, 1, 2, 3, 4]),
          (⟨(.l 56), .mv (.p 0), none⟩, [0, 1, 2, 3, 4, 5, 6, 7, 8, 9]),
          (⟨(.l 57), .mv (.p 5), none⟩, [0, 1, 2, 3, 4, 5, 6, 7, 8, 9, 10]),
          (⟨(.l 58), .iaddr none 3 (.l 56) (.l 57), none⟩, [0, 1, 2, 3, 4, 5, 6, 7, 8, 9]),
          (⟨(.l 59), .load 3 true (.l 58), none⟩, [0, 1, 2, 3, 4, 5, 6, 7, 8, 9]),
          (⟨(.l 60), .iaddr none 3 (.l 46) (.l 47), none⟩, [2, 3, 4]),
          (⟨.no, .store 3 (.l 60) (.l 55), none⟩, [2, 3, 4]),
          (⟨(.l 61), .iaddr none 3 (.l 48) (.l 50), none⟩, []),
          (⟨.no, .store 3 (.l 61) (.l 59), none⟩, [])])
        (.seq (.seq (.region [⟨(.l 62), .mv (.p 5), none⟩,
            ⟨(.l 63), .mv (.p 1), none⟩,
            ⟨(.l 64), .bin .sub (.l 62) (.l 63), none⟩,
            ⟨(.l 65), .bin .geq (.l 64) (.c (.int .i64 (2))), none⟩])
          (.cond (.l 65)
           (.seq (.region [⟨(.l 66), .mv (.p 5), none⟩,
              ⟨(.l 67), .bin .sub (.l 66) (.c (.int .i64 (1))), none⟩,
              ⟨(.p 7), .mv (.l 67), none⟩])
            (.block 4
             (.loop b236_1)))
           (.skip)))
         (.seq (.region [⟨(.l 101), .mv (.p 2), none⟩,
            ⟨(.l 102), .mv (.p 5), none⟩,
            ⟨(.l 103), .bin .sub (.l 101) (.l 102), none⟩,
            ⟨(.l 104), .bin .geq (.l 103) (.c (.int .i64 (2))), none⟩])
          (.cond (.l 104)
           (.seq (.region [⟨(.l 105), .mv (.p 5), none⟩,
              ⟨(.l 106), .bin .add (.l 105) (.c (.int .i64 (1))), none⟩,
              ⟨(.p 8), .mv (.l 106), none⟩])
            (.block 6
             (.loop b236_2)))
           (.skip)))))))))
   (.region [⟨(.l 17), .mv (.p 6), none⟩,
     ⟨(.l 18), .bin .add (.l 17) (.c (.int .i64 (1))), none⟩,
     ⟨(.p 6), .mv (.l 18), none⟩]))
/-- slices.partialInsertionSortCmpFunc[stadion/api.Mark] -/
def b236 : ICode :=
 .seq (.region [⟨(.p 4), .mv (.c (.bool false)), none⟩])
  (.seq (.region [⟨(.l 13), .mv (.p 1), none⟩,
     ⟨(.l 14), .bin .add (.l 13) (.c (.int .i64 (1))), none⟩,
     ⟨(.p 5), .mv (.l 14), none⟩])
   (.seq (.seq (.region [⟨(.p 6), .mv (.c (.int .i64 (0))), none⟩])
     (.block 0
      (.loop b236_3)))
    (.seq (.region [⟨(.p 4), .mv (.c (.bool false)), none⟩])
     (.ret))))
theorem ft236 : FT 236 = some ⟨141, [0, 1, 2, 3, 8, 9, 10, 11, 12], [.var (.p 4)], b236⟩ := by kernel_rfl

def b233_0 : ICode :=
 .seq (.seq (.region [⟨(.l 28), .mv (.p 7), none⟩,
     ⟨(.l 29), .mv (.p 1), none⟩,
     ⟨(.l 30), .mv (.p 4), none⟩,
     ⟨(.l 31), .bin .quo (.l 30) (.c (.int .i64 (4))), none⟩,
     ⟨(.l 32), .bin .mul (.l 31) (.c (.int .i64 (2))), none⟩,
     ⟨(.l 33), .bin .add (.l 29) (.l 32), none⟩,
     ⟨(.l 34), .bin .add (.l 33) (.c (.int .i64 (1))), none⟩,
     ⟨(.l 35), .bin .leq (.l 28) (.l 34), none⟩])
   (.cond (.l 35)
    (.skip)
    (.exit 0)))
  (.seq (.block 1
    (.seq (.region [⟨(.l 38), .call (.c (.fn (.func 272) [] [])) [(.p 5)], none⟩,
       ⟨(.l 39), .mv (.p 6), none⟩,
       ⟨(.l 40), .bin .sub (.l 39) (.c (.int .u64 (1))), none⟩,
       ⟨(.l 41), .bin .and (.l 38) (.l 40), none⟩,
       ⟨(.l 42), .convInt .i64 (.l 41), none⟩,
       ⟨(.p 8), .mv (.l 42), none⟩])
     (.seq (.seq (.region [⟨(.l 43), .mv (.p 8), none⟩,
         ⟨(.l 44), .mv (.p 4), none⟩,
         ⟨(.l 45), .bin .geq (.l 43) (.l 44), none⟩])
       (.cond (.l 45)
        (.region [⟨(.l 46), .mv (.p 8), none⟩,
          ⟨(.l 47), .mv (.p 4), none⟩,
          ⟨(.l 48), .bin .sub (.l 46) (.l 47), none⟩,
          ⟨(.p 8), .mv (.l 48), none⟩])
        (.skip)))
      (.draw [(⟨(.l 49), .mv (.p 0), none⟩, []),
        (⟨(.l 50), .mv (.p 7), none⟩, [0]),
        (⟨(.l 51), .mv (.p 0), none⟩, [0, 1]),
        (⟨(.l 52), .mv (.p 1), none⟩, [0, 1, 2]),
        (⟨(.l 53), .mv (.p 8), none⟩, [0, 1, 2, 3]),
        (⟨(.l 54), .bin .add (.l 52) (.l 53), none⟩, [0, 1, 2]),
        (⟨(.l 55), .mv (.p 0), none⟩, [0, 1, 2, 3, 4, 5]),
        (⟨(.l 56), .mv (.p 1), none⟩, [0, 1, 2, 3, 4, 5, 6]),
        (⟨(.l 57), .mv (.p 8), none⟩, [0, 1, 2, 3, 4, 5, 6, 7]),
        (⟨(.l 58), .bin .add (.l 56) (.l 57), none⟩, [0, 1, 2, 3, 4, 5, 6]),
        (⟨(.l 59), .iaddr none 3 (.l 55) (.l 58), none⟩, [0, 1, 2, 3, 4, 5]),
        (⟨(.l 60), .load 3 true (.l 59), none⟩, [0, 1, 2, 3, 4, 5]),
        (⟨(.l 61), .mv (.p 0), none⟩, [0, 1, 2, 3, 4, 5, 6, 7, 8, 9, 10, 11]),
        (⟨(.l 62), .mv (.p 7), none⟩, [0, 1, 2, 3, 4, 5, 6, 7, 8, 9, 10, 11, 12]),
        (⟨(.l 63), .iaddr none 3 (.l 61) (.l 62), none⟩, [0, 1, 2, 3, 4, 5, 6, 7, 8, 9, 10, 11]),
        (⟨(.l 64), .load 3 true (.l 63), none⟩, [0, 1, 2, 3, 4, 5, 6, 7, 8, 9, 10, 11]),
        (⟨(.l 65), .iaddr none 3 (.l 49) (.l 50), none⟩, [2, 3, 4, 5]),
        (⟨.no, .store 3 (.l 65) (.l 60), none⟩, [2, 3, 4, 5]),
        (⟨(.l 66), .iaddr none 3 (.l 51) (.l 54), none⟩, []),
        (⟨.no, .store 3 (.l 66) (.l 64), none⟩, [])]))))
   (.region [⟨(.l 36), .mv (.p 7), none⟩,
     ⟨(.l 37), .bin .add (.l 36) (.c (.int .i64 (1))), none⟩,
     ⟨(.p 7), .mv (.l 37), none⟩]))
/-- slices.breakPatternsCmpFunc[stadion/api.Mark] -/
def b233 : ICode :=
 .seq (.region [⟨(.l 13), .mv (.p 2), none⟩,
    ⟨(.l 14), .mv (.p 1), none⟩,
    ⟨(.l 15), .bin .sub (.l 13) (.l 14), none⟩,
    ⟨(.p 4), .mv (.l 15), none⟩])
  (.seq (.region [⟨(.l 16), .mv (.p 4), none⟩,
     ⟨(.l 17), .bin .geq (.l 16) (.c (.int .i64 (8))), none⟩])
   (.cond (.l 17)
    (.seq (.region [⟨(.l 18), .mv (.p 4), none⟩,
       ⟨(.l 19), .convInt .u64 (.l 18), none⟩,
       ⟨(.p 5), .alloc 273 [.int .u64 (0)], none⟩,
       ⟨.no, .store 1 (.p 5) (.l 19), none⟩])
     (.seq (.region [⟨(.l 20), .mv (.p 4), none⟩,
        ⟨(.l 21), .call (.c (.fn (.func 271) [] [])) [(.l 20)], none⟩,
        ⟨(.p 6), .mv (.l 21), none⟩])
      (.seq (.region [⟨(.l 22), .mv (.p 1), none⟩,
         ⟨(.l 23), .mv (.p 4), none⟩,
         ⟨(.l 24), .bin .quo (.l 23) (.c (.int .i64 (4))), none⟩,
         ⟨(.l 25), .bin .mul (.l 24) (.c (.int .i64 (2))), none⟩,
         ⟨(.l 26), .bin .add (.l 22) (.l 25), none⟩,
         ⟨(.l 27), .bin .sub (.l 26) (.c (.int .i64 (1))), none⟩,
         ⟨(.p 7), .mv (.l 27), none⟩])
       (.block 0
        (.loop b233_0)))))
    (.skip)))
theorem ft233 : FT 233 = some ⟨67, [0, 1, 2, 3, 8, 9, 10, 11, 12], [], b233⟩ := by kernel_rfl

/-- slices.choosePivotCmpFunc[stadion/api.Mark] -/
def b234 : ICode :=
 .seq (.region [⟨(.p 4), .mv (.c (.int .i64 (0))), none⟩,
    ⟨(.p 5), .mv (.c (.int .i64 (0))), none⟩])
  (.seq (.region [⟨(.l 15), .mv (.p 2), none⟩,
     ⟨(.l 16), .mv (.p 1), none⟩,
     ⟨(.l 17), .bin .sub (.l 15) (.l 16), none⟩,
     ⟨(.p 6), .mv (.l 17), none⟩])
   (.seq (.region [⟨(.p 7), .alloc 3 [.int .i64 (0)], none⟩])
    (.seq (.region [⟨(.l 18), .mv (.p 1), none⟩,
       ⟨(.l 19), .mv (.p 6), none⟩,
       ⟨(.l 20), .bin .quo (.l 19) (.c (.int .i64 (4))), none⟩,
       ⟨(.l 21), .bin .mul (.l 20) (.c (.int .i64 (1))), none⟩,
       ⟨(.l 22), .bin .add (.l 18) (.l 21), none⟩,
       ⟨(.p 8), .mv (.l 22), none⟩])
     (.seq (.region [⟨(.l 23), .mv (.p 1), none⟩,
        ⟨(.l 24), .mv (.p 6), none⟩,
        ⟨(.l 25), .bin .quo (.l 24) (.c (.int .i64 (4))), none⟩,
        ⟨(.l 26), .bin .mul (.l 25) (.c (.int .i64 (2))), none⟩,
        ⟨(.l 27), .bin .add (.l 23) (.l 26), none⟩,
        ⟨(.p 9), .mv (.l 27), none⟩])
      (.seq (.region [⟨(.l 28), .mv (.p 1), none⟩,
         ⟨(.l 29), .mv (.p 6), none⟩,
         ⟨(.l 30), .bin .quo (.l 29) (.c (.int .i64 (4))), none⟩,
         ⟨(.l 31), .bin .mul (.l 30) (.c (.int .i64 (3))), none⟩,
         ⟨(.l 32), .bin .add (.l 28) (.l 31), none⟩,
         ⟨(.p 10), .mv (.l 32), none⟩])
       (.seq (.seq (.region [⟨(.l 33), .mv (.p 6), none⟩,
           ⟨(.l 34), .bin .geq (.l 33) (.c (.int .i64 (8))), none⟩])
         (.cond (.l 34)
          (.seq (.seq (.region [⟨(.l 35), .mv (.p 6), none⟩,
              ⟨(.l 36), .bin .geq (.l 35) (.c (.int .i64 (50))), none⟩])
            (.cond (.l 36)
             (.seq (.region [⟨(.l 37), .mv (.p 0), none⟩,
                ⟨(.l 38), .mv (.p 8), none⟩,
                ⟨(.l 39), .mv (.p 3), none⟩,
                ⟨(.l 40), .call (.c (.fn (.func 273) [] [])) [(.l 37), (.l 38), (.p 7), (.l 39)], none⟩,
                ⟨(.p 8), .mv (.l 40), none⟩])
              (.seq (.region [⟨(.l 41), .mv (.p 0), none⟩,
                 ⟨(.l 42), .mv (.p 9), none⟩,
                 ⟨(.l 43), .mv (.p 3), none⟩,
                 ⟨(.l 44), .call (.c (.fn (.func 273) [] [])) [(.l 41), (.l 42), (.p 7), (.l 43)], none⟩,
                 ⟨(.p 9), .mv (.l 44), none⟩])
               (.region [⟨(.l 45), .mv (.p 0), none⟩,
                 ⟨(.l 46), .mv (.p 10), none⟩,
                 ⟨(.l 47), .mv (.p 3), none⟩,
                 ⟨(.l 48), .call (.c (.fn (.func 273) [] [])) [(.l 45), (.l 46), (.p 7), (.l 47)], none⟩,
                 ⟨(.p 10), .mv (.l 48), none⟩])))
             (.skip)))
           (.region [⟨(.l 49), .mv (.p 0), none⟩,
             ⟨(.l 50), .mv (.p 8), none⟩,
             ⟨(.l 51), .mv (.p 9), none⟩,
             ⟨(.l 52), .mv (.p 10), none⟩,
             ⟨(.l 53), .mv (.p 3), none⟩,
             ⟨(.l 54), .call (.c (.fn (.func 274) [] [])) [(.l 49), (.l 50), (.l 51), (.l 52), (.p 7), (.l 53)], none⟩,
             ⟨(.p 9), .mv (.l 54), none⟩]))
          (.skip)))
        (.seq (.region [⟨(.p 11), .load 1 false (.p 7), none⟩])
         (.block 0
          (.seq (.region [⟨(.l 58), .bin .eql (.p 11) (.c (.int .i64 (0))), none⟩,
             ⟨(.l 57), .mv (.l 58), none⟩])
           (.cond (.l 57)
            (.seq (.region [⟨(.l 59), .mv (.p 9), none⟩,
               ⟨(.p 4), .mv (.l 59), none⟩,
               ⟨(.p 5), .mv (.c (.int .i64 (1))), none⟩])
             (.ret))
            (.seq (.region [⟨(.l 61), .bin .eql (.p 11) (.c (.int .i64 (12))), none⟩,
               ⟨(.l 60), .mv (.l 61), none⟩])
             (.cond (.l 60)
              (.seq (.region [⟨(.l 62), .mv (.p 9), none⟩,
                 ⟨(.p 4), .mv (.l 62), none⟩,
                 ⟨(.p 5), .mv (.c (.int .i64 (2))), none⟩])
               (.ret))
              (.seq (.region [⟨(.l 56), .mv (.p 9), none⟩,
                 ⟨(.p 4), .mv (.l 56), none⟩,
                 ⟨(.p 5), .mv (.c (.int .i64 (0))), none⟩])
               (.ret))))))))))))))
theorem ft234 : FT 234 = some ⟨63, [0, 1, 2, 3, 8, 9, 10, 11, 12, 13, 14, 55], [.var (.p 4), .var (.p 5)], b234⟩ := by kernel_rfl

/-- slices.medianCmpFunc[stadion/api.Mark] -/
def b274 : ICode :=
 .seq (.region [⟨(.p 6), .mv (.c (.int .i64 (0))), none⟩])
  (.seq (.region [⟨(.l 14), .mv (.p 0), none⟩,
     ⟨(.l 15), .mv (.p 1), none⟩,
     ⟨(.l 16), .mv (.p 2), none⟩,
     ⟨(.l 17), .mv (.p 4), none⟩,
     ⟨(.l 18), .mv (.p 5), none⟩,
     ⟨(.l 19), .call (.c (.fn (.func 311) [] [])) [(.l 14), (.l 15), (.l 16), (.l 17), (.l 18)], none⟩,
     ⟨(.l 13), .mv (.l 19), none⟩,
     ⟨(.l 20), .extract 0 (.l 13), none⟩,
     ⟨(.l 21), .extract 1 (.l 13), none⟩,
     ⟨(.p 1), .mv (.l 20), none⟩,
     ⟨(.p 2), .mv (.l 21), none⟩])
   (.seq (.region [⟨(.l 23), .mv (.p 0), none⟩,
      ⟨(.l 24), .mv (.p 2), none⟩,
      ⟨(.l 25), .mv (.p 3), none⟩,
      ⟨(.l 26), .mv (.p 4), none⟩,
      ⟨(.l 27), .mv (.p 5), none⟩,
      ⟨(.l 28), .call (.c (.fn (.func 311) [] [])) [(.l 23), (.l 24), (.l 25), (.l 26), (.l 27)], none⟩,
      ⟨(.l 22), .mv (.l 28), none⟩,
      ⟨(.l 29), .extract 0 (.l 22), none⟩,
      ⟨(.l 30), .extract 1 (.l 22), none⟩,
      ⟨(.p 2), .mv (.l 29), none⟩,
      ⟨(.p 3), .mv (.l 30), none⟩])
    (.seq (.region [⟨(.l 32), .mv (.p 0), none⟩,
       ⟨(.l 33), .mv (.p 1), none⟩,
       ⟨(.l 34), .mv (.p 2), none⟩,
       ⟨(.l 35), .mv (.p 4), none⟩,
       ⟨(.l 36), .mv (.p 5), none⟩,
       ⟨(.l 37), .call (.c (.fn (.func 311) [] [])) [(.l 32), (.l 33), (.l 34), (.l 35), (.l 36)], none⟩,
       ⟨(.l 31), .mv (.l 37), none⟩,
       ⟨(.l 38), .extract 0 (.l 31), none⟩,
       ⟨(.l 39), .extract 1 (.l 31), none⟩,
       ⟨(.p 1), .mv (.l 38), none⟩,
       ⟨(.p 2), .mv (.l 39), none⟩])
     (.seq (.region [⟨(.l 40), .mv (.p 2), none⟩,
        ⟨(.p 6), .mv (.l 40), none⟩])
      (.ret)))))
theorem ft274 : FT 274 = some ⟨41, [0, 1, 2, 3, 4, 5, 12], [.var (.p 6)], b274⟩ := by kernel_rfl

/-- slices.order2CmpFunc[stadion/api.Mark] -/
def b311 : ICode :=
 .seq (.region [⟨(.p 5), .mv (.c (.int .i64 (0))), none⟩,
    ⟨(.p 6), .mv (.c (.int .i64 (0))), none⟩])
  (.seq (.seq (.draw [(⟨(.l 12), .mv (.p 4), none⟩, []),
      (⟨(.l 13), .mv (.p 0), none⟩, [0]),
      (⟨(.l 14), .mv (.p 2), none⟩, [0, 1]),
      (⟨(.l 15), .iaddr none 3 (.l 13) (.l 14), none⟩, [0]),
      (⟨(.l 16), .load 3 true (.l 15), none⟩, [0]),
      (⟨(.l 17), .mv (.p 0), none⟩, [0, 1, 2, 3, 4]),
      (⟨(.l 18), .mv (.p 1), none⟩, [0, 1, 2, 3, 4, 5]),
      (⟨(.l 19), .iaddr none 3 (.l 17) (.l 18), none⟩, [0, 1, 2, 3, 4]),
      (⟨(.l 20), .load 3 true (.l 19), none⟩, [0, 1, 2, 3, 4]),
      (⟨(.l 21), .call (.l 12) [(.l 16), (.l 20)], none⟩, []),
      (⟨(.l 22), .bin .lss (.l 21) (.c (.int .i64 (0))), none⟩, [])])
    (.cond (.l 22)
     (.seq (.region [⟨(.l 23), .mv (.p 3), none⟩,
        ⟨(.l 24), .nilck (.l 23), none⟩,
        ⟨(.l 25), .load 1 false (.l 24), none⟩,
        ⟨(.l 26), .bin .add (.l 25) (.c (.int .i64 (1))), none⟩,
        ⟨(.l 27), .nilck (.l 23), none⟩,
        ⟨.no, .store 1 (.l 27) (.l 26), none⟩])
      (.seq (.region [⟨(.l 28), .mv (.p 2), none⟩,
         ⟨(.l 29), .mv (.p 1), none⟩,
         ⟨(.p 5), .mv (.l 28), none⟩,
         ⟨(.p 6), .mv (.l 29), none⟩])
       (.ret)))
     (.skip)))
   (.seq (.region [⟨(.l 30), .mv (.p 1), none⟩,
      ⟨(.l 31), .mv (.p 2), none⟩,
      ⟨(.p 5), .mv (.l 30), none⟩,
      ⟨(.p 6), .mv (.l 31), none⟩])
    (.ret)))
theorem ft311 : FT 311 = some ⟨32, [0, 1, 2, 3, 4, 10, 11], [.var (.p 5), .var (.p 6)], b311⟩ := by kernel_rfl

def b235_0 : ICode :=
 .seq (.seq (.region [⟨(.l 13), .mv (.p 4), none⟩,
     ⟨(.l 14), .mv (.p 5), none⟩,
     ⟨(.l 15), .bin .lss (.l 13) (.l 14), none⟩])
   (.cond (.l 15)
    (.skip)
    (.exit 0)))
  (.block 1
   (.seq (.draw [(⟨(.l 16), .mv (.p 0), none⟩, []),
      (⟨(.l 17), .mv (.p 4), none⟩, [0]),
      (⟨(.l 18), .mv (.p 0), none⟩, [0, 1]),
      (⟨(.l 19), .mv (.p 5), none⟩, [0, 1, 2]),
      (⟨(.l 20), .mv (.p 0), none⟩, [0, 1, 2, 3]),
      (⟨(.l 21), .mv (.p 5), none⟩, [0, 1, 2, 3, 4]),
      (⟨(.l 22), .iaddr none 3 (.l 20) (.l 21), none⟩, [0, 1, 2, 3]),
      (⟨(.l 23), .load 3 true (.l 22), none⟩, [0, 1, 2, 3]),
      (⟨(.l 24), .mv (.p 0), none⟩, [0, 1, 2, 3, 4, 5, 6, 7]),
      (⟨(.l 25), .mv (.p 4), none⟩, [0, 1, 2, 3, 4, 5, 6, 7, 8]),
      (⟨(.l 26), .iaddr none 3 (.l 24) (.l 25), none⟩, [0, 1, 2, 3, 4, 5, 6, 7]),
      (⟨(.l 27), .load 3 true (.l 26), none⟩, [0, 1, 2, 3, 4, 5, 6, 7]),
      (⟨(.l 28), .iaddr none 3 (.l 16) (.l 17), none⟩, [2, 3]),
      (⟨.no, .store 3 (.l 28) (.l 23), none⟩, [2, 3]),
      (⟨(.l 29), .iaddr none 3 (.l 18) (.l 19), none⟩, []),
      (⟨.no, .store 3 (.l 29) (.l 27), none⟩, [])])
    (.seq (.region [⟨(.l 30), .mv (.p 4), none⟩,
       ⟨(.l 31), .bin .add (.l 30) (.c (.int .i64 (1))), none⟩,
       ⟨(.p 4), .mv (.l 31), none⟩])
     (.region [⟨(.l 32), .mv (.p 5), none⟩,
       ⟨(.l 33), .bin .sub (.l 32) (.c (.int .i64 (1))), none⟩,
       ⟨(.p 5), .mv (.l 33), none⟩]))))
/-- slices.reverseRangeCmpFunc[stadion/api.Mark] -/
def b235 : ICode :=
 .seq (.region [⟨(.l 10), .mv (.p 1), none⟩,
    ⟨(.p 4), .mv (.l 10), none⟩])
  (.seq (.region [⟨(.l 11), .mv (.p 2), none⟩,
     ⟨(.l 12), .bin .sub (.l 11) (.c (.int .i64 (1))), none⟩,
     ⟨(.p 5), .mv (.l 12), none⟩])
   (.block 0
    (.loop b235_0)))
theorem ft235 : FT 235 = some ⟨34, [0, 1, 2, 3, 8, 9], [], b235⟩ := by kernel_rfl

/-- slices.nextPowerOfTwo -/
def b271 : ICode :=
 .seq (.region [⟨(.p 1), .mv (.c (.int .u64 (0))), none⟩])
  (.seq (.region [⟨(.l 3), .mv (.p 0), none⟩,
     ⟨(.l 4), .convInt .u64 (.l 3), none⟩,
     ⟨(.l 5), .call (.c (.fn (.func 191) [] [])) [(.l 4)], none⟩,
     ⟨(.l 6), .bin .shl (.c (.int .u64 (1))) (.l 5), none⟩,
     ⟨(.p 1), .mv (.l 6), none⟩])
   (.ret))
theorem ft271 : FT 271 = some ⟨7, [0, 2], [.var (.p 1)], b271⟩ := by kernel_rfl

/-- (*slices.xorshift).Next -/
def b272 : ICode :=
 .seq (.region [⟨(.p 1), .mv (.c (.int .u64 (0))), none⟩])
  (.seq (.draw [(⟨(.l 3), .mv (.p 0), none⟩, []),
     (⟨(.l 4), .nilck (.l 3), none⟩, []),
     (⟨(.l 5), .load 1 false (.l 4), none⟩, []),
     (⟨(.l 6), .mv (.p 0), none⟩, [0, 1, 2]),
     (⟨(.l 7), .nilck (.l 6), none⟩, [0, 1, 2]),
     (⟨(.l 8), .load 1 false (.l 7), none⟩, [0, 1, 2]),
     (⟨(.l 9), .bin .shl (.l 8) (.c (.int .u64 (13))), none⟩, [0, 1, 2]),
     (⟨(.l 10), .bin .xor (.l 5) (.l 9), none⟩, []),
     (⟨(.l 11), .nilck (.l 3), none⟩, []),
     (⟨.no, .store 1 (.l 11) (.l 10), none⟩, [])])
   (.seq (.draw [(⟨(.l 12), .mv (.p 0), none⟩, []),
      (⟨(.l 13), .nilck (.l 12), none⟩, []),
      (⟨(.l 14), .load 1 false (.l 13), none⟩, []),
      (⟨(.l 15), .mv (.p 0), none⟩, [0, 1, 2]),
      (⟨(.l 16), .nilck (.l 15), none⟩, [0, 1, 2]),
      (⟨(.l 17), .load 1 false (.l 16), none⟩, [0, 1, 2]),
      (⟨(.l 18), .bin .shr (.l 17) (.c (.int .u64 (7))), none⟩, [0, 1, 2]),
      (⟨(.l 19), .bin .xor (.l 14) (.l 18), none⟩, []),
      (⟨(.l 20), .nilck (.l 12), none⟩, []),
      (⟨.no, .store 1 (.l 20) (.l 19), none⟩, [])])
    (.seq (.draw [(⟨(.l 21), .mv (.p 0), none⟩, []),
       (⟨(.l 22), .nilck (.l 21), none⟩, []),
       (⟨(.l 23), .load 1 false (.l 22), none⟩, []),
       (⟨(.l 24), .mv (.p 0), none⟩, [0, 1, 2]),
       (⟨(.l 25), .nilck (.l 24), none⟩, [0, 1, 2]),
       (⟨(.l 26), .load 1 false (.l 25), none⟩, [0, 1, 2]),
       (⟨(.l 27), .bin .shl (.l 26) (.c (.int .u64 (17))), none⟩, [0, 1, 2]),
       (⟨(.l 28), .bin .xor (.l 23) (.l 27), none⟩, []),
       (⟨(.l 29), .nilck (.l 21), none⟩, []),
       (⟨.no, .store 1 (.l 29) (.l 28), none⟩, [])])
     (.seq (.region [⟨(.l 30), .mv (.p 0), none⟩,
        ⟨(.l 31), .nilck (.l 30), none⟩,
        ⟨(.l 32), .load 1 false (.l 31), none⟩,
        ⟨(.p 1), .mv (.l 32), none⟩])
      (.ret)))))
theorem ft272 : FT 272 = some ⟨33, [0, 2], [.var (.p 1)], b272⟩ := by kernel_rfl

-- no such function slices.(*xorshift).Next

def b7_0 : ICode :=
 .seq (.seq (.region [⟨(.l 15), .mv (.p 2), none⟩,
     ⟨(.l 16), .mv (.p 0), none⟩,
     ⟨(.l 17), .len .sl (.l 16), none⟩,
     ⟨(.l 18), .bin .lss (.l 15) (.l 17), none⟩])
   (.cond (.l 18)
    (.skip)
    (.exit 0)))
  (.seq (.block 1
    (.seq (.region [⟨(.l 21), .mv (.p 0), none⟩,
       ⟨(.l 22), .mv (.p 2), none⟩,
       ⟨(.l 23), .iaddr none 3 (.l 21) (.l 22), none⟩,
       ⟨(.l 24), .load 3 true (.l 23), none⟩,
       ⟨(.l 25), .call (.c (.fn (.func 34) [] [])) [(.l 24)], none⟩,
       ⟨(.l 26), .un .not (.l 25), none⟩])
     (.cond (.l 26)
      (.seq (.region [⟨(.p 1), .mv (.c (.bool true)), none⟩])
       (.ret))
      (.skip))))
   (.region [⟨(.l 19), .mv (.p 2), none⟩,
     ⟨(.l 20), .bin .add (.l 19) (.c (.int .i64 (1))), none⟩,
     ⟨(.p 2), .mv (.l 20), none⟩]))
/-- stadion/stadionlaw01.MarkRanks -/
def b7 : ICode :=
 .seq (.region [⟨(.p 1), .mv (.c (.bool false)), none⟩])
  (.seq (.seq (.region [⟨(.l 7), .call (.c (.fn (.func 18) [] [])) [], none⟩,
      ⟨(.l 8), .un .not (.l 7), none⟩,
      ⟨(.l 9), .mv (.l 8), none⟩,
      ⟨(.l 10), .mv (.p 0), some ((.l 9), false)⟩,
      ⟨(.l 11), .len .sl (.l 10), some ((.l 9), false)⟩,
      ⟨(.l 12), .bin .gtr (.l 11) (.c (.int .i64 (260))), some ((.l 9), false)⟩,
      ⟨(.l 13), .pick (.l 9) (.c (.bool true)) (.l 12), none⟩])
    (.cond (.l 13)
     (.seq (.region [⟨(.l 14), .call (.c (.fn (.func 18) [] [])) [], none⟩,
        ⟨(.p 1), .mv (.l 14), none⟩])
      (.ret))
     (.skip)))
   (.seq (.seq (.region [⟨(.p 2), .mv (.c (.int .i64 (0))), none⟩])
     (.block 0
      (.loop b7_0)))
    (.seq (.region [⟨(.l 27), .mv (.p 0), none⟩,
       ⟨(.l 28), .call (.c (.fn (.func 48) [] [])) [(.l 27)], none⟩,
       ⟨(.p 3), .mv (.l 28), none⟩])
     (.seq (.seq (.region [⟨(.l 29), .mv (.p 3), none⟩,
         ⟨(.l 30), .bin .eql (.l 29) (.c (.int .i64 (0))), none⟩,
         ⟨(.l 31), .mv (.l 30), none⟩,
         ⟨(.l 32), .mv (.p 0), some ((.l 31), true)⟩,
         ⟨(.l 33), .len .sl (.l 32), some ((.l 31), true)⟩,
         ⟨(.l 34), .bin .gtr (.l 33) (.c (.int .i64 (30))), some ((.l 31), true)⟩,
         ⟨(.l 35), .pick (.l 31) (.l 34) (.c (.bool false)), none⟩])
       (.cond (.l 35)
        (.seq (.region [⟨(.p 1), .mv (.c (.bool true)), none⟩])
         (.ret))
        (.skip)))
      (.seq (.region [⟨(.l 37), .mv (.p 0), none⟩,
         ⟨(.l 38), .call (.c (.fn (.func 49) [] [])) [(.l 37)], none⟩,
         ⟨(.l 36), .mv (.l 38), none⟩,
         ⟨(.l 39), .extract 0 (.l 36), none⟩,
         ⟨(.l 40), .extract 1 (.l 36), none⟩,
         ⟨(.p 4), .mv (.l 39), none⟩,
         ⟨(.p 5), .mv (.l 40), none⟩])
       (.seq (.seq (.region [⟨(.l 41), .mv (.p 3), none⟩,
           ⟨(.l 42), .bin .neq (.l 41) (.c (.int .i64 (0))), none⟩])
         (.cond (.l 42)
          (.seq (.region [⟨(.l 43), .mv (.p 4), none⟩,
             ⟨(.l 44), .mv (.p 5), none⟩,
             ⟨(.l 45), .mv (.p 3), none⟩,
             ⟨(.l 46), .call (.c (.fn (.func 21) [] [])) [(.l 43), (.l 44), (.l 45), (.c (.nilsl))], none⟩,
             ⟨(.p 1), .mv (.l 46), none⟩])
           (.ret))
          (.skip)))
        (.seq (.region [⟨(.l 47), .mv (.p 4), none⟩,
           ⟨(.l 48), .mv (.p 5), none⟩,
           ⟨(.l 49), .mv (.p 0), none⟩,
           ⟨(.l 50), .call (.c (.fn (.func 50) [] [])) [(.l 49)], none⟩,
           ⟨(.l 51), .call (.c (.fn (.func 21) [] [])) [(.l 47), (.l 48), (.c (.int .i64 (0))), (.l 50)], none⟩,
           ⟨(.p 1), .mv (.l 51), none⟩])
         (.ret))))))))
theorem ft7 : FT 7 = some ⟨52, [0, 2, 3, 4, 5, 6], [.var (.p 1)], b7⟩ := by kernel_rfl

end Go.Ab.Ch1


/-
  Own work: stadionlaw01.MarkRanks answers true.
-/
namespace Go.Ab.Ch1
variable {M : Mach}

/-- What MarkRanks calls. -/
structure Calls7 (M : Mach) : Prop where
  c18 : ∀ h, M.ext 18 [] h = some ⟨.bool true, h, []⟩
  c34 : ∀ m h, M.ext 34 [am m] h = some ⟨.bool (decide (m.1.length ≤ 40 ∧ m.2.2.length ≤ 40)), h, []⟩
  c48 : ∀ l cap h, l.length < 1000000 → M.ext 48 [.vs (arr cm l) l.length cap] h = some ⟨.int .i64 (marksE l), h, []⟩
  c49e : ∀ l cap h, l.length < 1000000 → marksE l ≠ 0 → M.ext 49 [.vs (arr cm l) l.length cap] h = some ⟨.tup [.nilsl, .int .i64 (marksE l)], h, []⟩
  c49 : ∀ l cap h, l.length ≤ 30 → marksE l = 0 → M.ext 49 [.vs (arr cm l) l.length cap] h = some ⟨.tup [.sl h.length 0 l.length 1 (some l.length), .int .i64 0], h ++ [some (.cells (ints (l.map (rankM l))) 3)], []⟩
  c50 : ∀ l cap h, l.length < 1000000 → marksE l = 0 → M.ext 50 [.vs (arr cm l) l.length cap] h = some (if l = [] then ⟨.nilsl, h, []⟩ else ⟨.sl h.length 0 l.length 1 none, h ++ [some (.cells (ints (l.map (rankM l))) 3)], []⟩)
  c21 : ∀ x y l m (e bad : Int) h, intsAt h x = some l → intsAt h y = some m → l.length < 4611686018427387904 → M.ext 21 [x, .int .i64 e, .int .i64 bad, y] h = some ⟨.bool (if bad ≠ 0 then decide (l.length = 0 ∧ e = bad) else decide (e = 0 ∧ l = m)), h, []⟩

theorem ranks_at {h : Heap} {b n : Nat} {cap : Option Nat} {l : List Int} {e : TypeId} (hb : h.at b = some (.cells (ints l) e)) (hl : l.length = n) : intsAt h (.sl b 0 n 1 cap) = some l := by
  subst hl
  have e0 : (ints l).length = l.length := (arr_length (f := fun x : Int => [AV.int .i64 x]) (esz := 1) (fun _ => rfl) l).trans (Nat.mul_one _)
  have e1 : cut (ints l) 0 (l.length * 1) = some (ints l) := by
    rw [Nat.mul_one, ← e0]; simp [cut]
  simp only [intsAt, cellsAt, hb, e1, Option.map_some, decInts_ints]
  simp

theorem loop7_0 (C : Calls7 M) (l : List Mk) (hn : l.length < 1000000) (a3 a4 a5 : AV) {Q : Ex → StW → Prop} : ∀ (r i : Nat) (lo : List (Nat × AV)) (wr : List Nat), i + r = l.length →
    (∀ lo wr, Q (.exit 0) ⟨⟨[.vs (arr cm l) l.length none, .bool false, .int .i64 l.length, a3, a4, a5], lo, [], []⟩, wr⟩) →
    (∀ a2 lo wr, Q .ret ⟨⟨[.vs (arr cm l) l.length none, .bool true, a2, a3, a4, a5], lo, [], []⟩, wr⟩) →
    W M (.loop b7_0) ⟨⟨[.vs (arr cm l) l.length none, .bool false, .int .i64 i, a3, a4, a5], lo, [], []⟩, wr⟩ Q := by
  intro r
  induction r with
  | zero =>
    intro i lo wr hi h1 h2
    obtain rfl : i = l.length := by omega
    refine W.loop ?_
    unfold b7_0
    repeat' first | apply W.seq | apply SQn | apply W.region | apply WO.nil | apply W.block | apply W.ret | apply W.exit | apply W.skip | apply SQr | apply SQe | apply BQn | apply BQr | apply BQe | (apply BQo; exact rfl) | apply LQe | apply LQr | (apply W.condT; exact rfl) | (apply W.condF; exact rfl) | (apply W.cond; exact rfl; all_goals intro _) | (apply WO.lss; exact rfl; exact rfl; all_goals first | (intro _; exfalso; omega) | intro _) | (apply WO.add; exact rfl; exact rfl; omega) | (apply WO.iav; exact rfl; exact rfl; omega) | (apply WO.ias; exact rfl; exact rfl; omega) | (apply WO.lda; exact rfl; exact fun _ => rfl; (first | omega | (simp only [List.length_set]; omega) | (simp; omega)); decide; exact rfl; case ia => infer_instance) | (apply WO.lsa; exact rfl; (first | exact rfl | assumption | exact at_new | (apply at_old; assumption) | (apply at_put; first | assumption | (simp only [put_length]; assumption))); exact fun _ => rfl; (first | omega | (simp only [List.length_set]; omega) | (simp; omega)); decide; exact rfl; case ia => infer_instance) | (apply WO.clb; exact rfl; exact rfl; exact rfl; all_goals first | (intro h; exact absurd h (by decide)) | intro _) | (apply WO.cll; exact rfl; exact rfl; exact rfl) | (apply WO.hlv; exact rfl; exact rfl; exact rfl) | (apply WO.hpv; exact rfl; exact rfl; exact rfl) | (apply WO.hnv; exact rfl; exact rfl; exact rfl) | (apply WO.pl; exact rfl; exact rfl) | (apply WO.pp; exact rfl; exact rfl)
    exact h1 _ _
  | succ r ih =>
    intro i lo wr hi h1 h2
    have q34 := fun h => C.c34 l[((i : Int)).toNat]! h
    refine W.loop ?_
    by_cases hb : l[((i : Int)).toNat]!.1.length ≤ 40 ∧ l[((i : Int)).toNat]!.2.2.length ≤ 40
    · simp only [decide_eq_true hb] at q34
      unfold b7_0
      repeat' first | apply W.seq | apply SQn | apply W.region | apply WO.nil | apply W.block | apply W.ret | apply W.exit | apply W.skip | apply SQr | apply SQe | apply BQn | apply BQr | apply BQe | (apply BQo; exact rfl) | apply LQe | apply LQr | (apply W.condT; exact rfl) | (apply W.condF; exact rfl) | (apply W.cond; exact rfl; all_goals intro _) | (apply WO.lss; exact rfl; exact rfl; all_goals first | (intro _; exfalso; omega) | intro _) | (apply WO.add; exact rfl; exact rfl; omega) | (apply WO.cll; exact rfl; exact rfl; first | exact q34 _) | (apply WO.iav; exact rfl; exact rfl; omega) | (apply WO.ias; exact rfl; exact rfl; omega) | (apply WO.lda; exact rfl; exact fun _ => rfl; (first | omega | (simp only [List.length_set]; omega) | (simp; omega)); decide; exact rfl; case ia => infer_instance) | (apply WO.lsa; exact rfl; (first | exact rfl | assumption | exact at_new | (apply at_old; assumption) | (apply at_put; first | assumption | (simp only [put_length]; assumption))); exact fun _ => rfl; (first | omega | (simp only [List.length_set]; omega) | (simp; omega)); decide; exact rfl; case ia => infer_instance) | (apply WO.clb; exact rfl; exact rfl; exact rfl; all_goals first | (intro h; exact absurd h (by decide)) | intro _) | (apply WO.cll; exact rfl; exact rfl; exact rfl) | (apply WO.hlv; exact rfl; exact rfl; exact rfl) | (apply WO.hpv; exact rfl; exact rfl; exact rfl) | (apply WO.hnv; exact rfl; exact rfl; exact rfl) | (apply WO.pl; exact rfl; exact rfl) | (apply WO.pp; exact rfl; exact rfl)
      exact LQn (ih (i + 1) _ _ (by omega) h1 h2)
    · simp only [decide_eq_false hb] at q34
      unfold b7_0
      repeat' first | apply W.seq | apply SQn | apply W.region | apply WO.nil | apply W.block | apply W.ret | apply W.exit | apply W.skip | apply SQr | apply SQe | apply BQn | apply BQr | apply BQe | (apply BQo; exact rfl) | apply LQe | apply LQr | (apply W.condT; exact rfl) | (apply W.condF; exact rfl) | (apply W.cond; exact rfl; all_goals intro _) | (apply WO.lss; exact rfl; exact rfl; all_goals first | (intro _; exfalso; omega) | intro _) | (apply WO.add; exact rfl; exact rfl; omega) | (apply WO.cll; exact rfl; exact rfl; first | exact q34 _) | (apply WO.iav; exact rfl; exact rfl; omega) | (apply WO.ias; exact rfl; exact rfl; omega) | (apply WO.lda; exact rfl; exact fun _ => rfl; (first | omega | (simp only [List.length_set]; omega) | (simp; omega)); decide; exact rfl; case ia => infer_instance) | (apply WO.lsa; exact rfl; (first | exact rfl | assumption | exact at_new | (apply at_old; assumption) | (apply at_put; first | assumption | (simp only [put_length]; assumption))); exact fun _ => rfl; (first | omega | (simp only [List.length_set]; omega) | (simp; omega)); decide; exact rfl; case ia => infer_instance) | (apply WO.clb; exact rfl; exact rfl; exact rfl; all_goals first | (intro h; exact absurd h (by decide)) | intro _) | (apply WO.cll; exact rfl; exact rfl; exact rfl) | (apply WO.hlv; exact rfl; exact rfl; exact rfl) | (apply WO.hpv; exact rfl; exact rfl; exact rfl) | (apply WO.hnv; exact rfl; exact rfl; exact rfl) | (apply WO.pl; exact rfl; exact rfl) | (apply WO.pp; exact rfl; exact rfl)
      exact h2 _ _ _

set_option maxHeartbeats 2000000 in
theorem w7 (hft : M.FT = FT) (C : Calls7 M) (l : List Mk) : Run M 7 [.vs (arr cm l) l.length none] [] ⟨.bool true, [], []⟩ := by
  have hEnd : ∀ s : StW, s.s.dfs = [] → s.s.pe[1]? = some (.bool true) → ((fun (e : Ex) (s : StW) => (e = .normal ∨ e = .ret) ∧ s.s.dfs = [] ∧ ∃ vs, resultsA s.s [.var (.p 1)] = some vs ∧ tupA vs = .bool true ∧ (if (AV.bool true).top ≤ 0 then [] else s.s.hp) = []) Ex.ret s) := fun s h1 h2 =>
    ⟨.inr rfl, h1, [.bool true], by simp only [resultsA, St.opd, h2], rfl, rfl⟩
  refine run_of_W (by rw [hft]; exact ft7) (by simp) ?_
  unfold b7
  simp only [List.map_cons, List.map_nil, List.getElem?_cons_zero, List.getElem?_cons_succ, List.getElem?_nil, Option.getD_some, Option.getD_none]
  by_cases hlen : 260 < l.length
  · repeat' first | apply W.seq | apply SQn | apply W.region | apply WO.nil | apply W.block | apply W.ret | apply W.exit | apply W.skip | apply SQr | apply SQe | apply BQn | apply BQr | apply BQe | (apply BQo; exact rfl) | apply LQe | apply LQr | (apply W.condT; exact rfl) | (apply W.condF; exact rfl) | (apply W.cond; exact rfl; all_goals intro _) | (apply WO.gT; exact rfl) | (apply WO.gF; exact rfl) | (apply WO.sT; exact rfl) | (apply WO.sF; exact rfl) | (apply WO.sU; exact rfl) | (apply WO.gtr; exact rfl; exact rfl; all_goals first | (intro _; exfalso; omega) | intro _) | (apply WO.eql; exact rfl; exact rfl; all_goals first | (intro _; exfalso; omega) | intro _) | (apply WO.neq; exact rfl; exact rfl; all_goals first | (intro _; exfalso; omega) | intro _) | (apply WO.pkT; exact rfl; exact rfl) | (apply WO.pkF; exact rfl; exact rfl) | (apply WO.cll; exact rfl; exact rfl; first | exact C.c18 _) | (apply WO.seql; exact rfl; exact rfl; all_goals first | (intro h; exact absurd h (by decide)) | (intro h; exact absurd rfl h) | (intro h; contradiction) | intro _) | (apply WO.sneq; exact rfl; exact rfl; all_goals first | (intro h; exact absurd h (by decide)) | (intro h; exact absurd rfl h) | (intro h; contradiction) | intro _) | (apply WO.clb; exact rfl; exact rfl; exact rfl; all_goals first | (intro h; exact absurd h (by decide)) | intro _) | (apply WO.cll; exact rfl; exact rfl; exact rfl) | (apply WO.pl; exact rfl; exact rfl) | (apply WO.pp; exact rfl; exact rfl)
    exact hEnd _ rfl rfl
  have q48 := fun h => C.c48 l none h (by omega)
  repeat' first | apply W.seq | apply SQn | apply W.region | apply WO.nil | apply W.block | apply W.ret | apply W.exit | apply W.skip | apply SQr | apply SQe | apply BQn | apply BQr | apply BQe | (apply BQo; exact rfl) | apply LQe | apply LQr | (apply W.condT; exact rfl) | (apply W.condF; exact rfl) | (apply W.cond; exact rfl; all_goals intro _) | (apply WO.gT; exact rfl) | (apply WO.gF; exact rfl) | (apply WO.sT; exact rfl) | (apply WO.sF; exact rfl) | (apply WO.sU; exact rfl) | (apply WO.gtr; exact rfl; exact rfl; all_goals first | (intro _; exfalso; omega) | intro _) | (apply WO.eql; exact rfl; exact rfl; all_goals first | (intro _; exfalso; omega) | intro _) | (apply WO.neq; exact rfl; exact rfl; all_goals first | (intro _; exfalso; omega) | intro _) | (apply WO.pkT; exact rfl; exact rfl) | (apply WO.pkF; exact rfl; exact rfl) | (apply WO.cll; exact rfl; exact rfl; first | exact C.c18 _) | (apply WO.seql; exact rfl; exact rfl; all_goals first | (intro h; exact absurd h (by decide)) | (intro h; exact absurd rfl h) | (intro h; contradiction) | intro _) | (apply WO.sneq; exact rfl; exact rfl; all_goals first | (intro h; exact absurd h (by decide)) | (intro h; exact absurd rfl h) | (intro h; contradiction) | intro _) | (apply WO.clb; exact rfl; exact rfl; exact rfl; all_goals first | (intro h; exact absurd h (by decide)) | intro _) | (apply WO.cll; exact rfl; exact rfl; exact rfl) | (apply WO.pl; exact rfl; exact rfl) | (apply WO.pp; exact rfl; exact rfl)
  refine loop7_0 C l (by omega) _ _ _ l.length 0 _ _ (by omega) (fun lo wr => ?_) (fun a2 lo wr => ?_)
  · by_cases hE : marksE l = 0
    · rw [hE] at q48
      by_cases h30 : 30 < l.length
      · repeat' first | apply W.seq | apply SQn | apply W.region | apply WO.nil | apply W.block | apply W.ret | apply W.exit | apply W.skip | apply SQr | apply SQe | apply BQn | apply BQr | apply BQe | (apply BQo; exact rfl) | apply LQe | apply LQr | (apply W.condT; exact rfl) | (apply W.condF; exact rfl) | (apply W.cond; exact rfl; all_goals intro _) | (apply WO.gT; exact rfl) | (apply WO.gF; exact rfl) | (apply WO.sT; exact rfl) | (apply WO.sF; exact rfl) | (apply WO.sU; exact rfl) | (apply WO.gtr; exact rfl; exact rfl; all_goals first | (intro _; exfalso; omega) | intro _) | (apply WO.eql; exact rfl; exact rfl; all_goals first | (intro _; exfalso; omega) | intro _) | (apply WO.neq; exact rfl; exact rfl; all_goals first | (intro _; exfalso; omega) | intro _) | (apply WO.pkT; exact rfl; exact rfl) | (apply WO.pkF; exact rfl; exact rfl) | (apply WO.cll; exact rfl; exact rfl; first | exact q48 _) | (apply WO.seql; exact rfl; exact rfl; all_goals first | (intro h; exact absurd h (by decide)) | (intro h; exact absurd rfl h) | (intro h; contradiction) | intro _) | (apply WO.sneq; exact rfl; exact rfl; all_goals first | (intro h; exact absurd h (by decide)) | (intro h; exact absurd rfl h) | (intro h; contradiction) | intro _) | (apply WO.clb; exact rfl; exact rfl; exact rfl; all_goals first | (intro h; exact absurd h (by decide)) | intro _) | (apply WO.cll; exact rfl; exact rfl; exact rfl) | (apply WO.pl; exact rfl; exact rfl) | (apply WO.pp; exact rfl; exact rfl)
        exact hEnd _ rfl rfl
      · have q49 := fun h => C.c49 l none h (by omega) hE
        have q50 := fun h => C.c50 l none h (by omega) hE
        by_cases hl : l = []
        · have ok21 : ∀ (h : Heap), M.ext 21 [.sl h.length 0 l.length 1 (some l.length), .int .i64 0, .int .i64 0, .nilsl] (h ++ [some (.cells (ints (l.map (rankM l))) 3)]) = some ⟨.bool true, h ++ [some (.cells (ints (l.map (rankM l))) 3)], []⟩ := fun h => by
            rw [C.c21 _ _ (l.map (rankM l)) [] 0 0 _ (ranks_at at_new (by simp)) rfl (by simp; omega)]
            simp [hl]
          simp only [if_pos hl] at q50
          repeat' first | apply W.seq | apply SQn | apply W.region | apply WO.nil | apply W.block | apply W.ret | apply W.exit | apply W.skip | apply SQr | apply SQe | apply BQn | apply BQr | apply BQe | (apply BQo; exact rfl) | apply LQe | apply LQr | (apply W.condT; exact rfl) | (apply W.condF; exact rfl) | (apply W.cond; exact rfl; all_goals intro _) | (apply WO.gT; exact rfl) | (apply WO.gF; exact rfl) | (apply WO.sT; exact rfl) | (apply WO.sF; exact rfl) | (apply WO.sU; exact rfl) | (apply WO.gtr; exact rfl; exact rfl; all_goals first | (intro _; exfalso; omega) | intro _) | (apply WO.eql; exact rfl; exact rfl; all_goals first | (intro _; exfalso; omega) | intro _) | (apply WO.neq; exact rfl; exact rfl; all_goals first | (intro _; exfalso; omega) | intro _) | (apply WO.pkT; exact rfl; exact rfl) | (apply WO.pkF; exact rfl; exact rfl) | (apply WO.cll; exact rfl; exact rfl; first | exact q48 _ | exact q49 _ | exact q50 _ | exact ok21 _) | (apply WO.seql; exact rfl; exact rfl; all_goals first | (intro h; exact absurd h (by decide)) | (intro h; exact absurd rfl h) | (intro h; contradiction) | intro _) | (apply WO.sneq; exact rfl; exact rfl; all_goals first | (intro h; exact absurd h (by decide)) | (intro h; exact absurd rfl h) | (intro h; contradiction) | intro _) | (apply WO.clb; exact rfl; exact rfl; exact rfl; all_goals first | (intro h; exact absurd h (by decide)) | intro _) | (apply WO.cll; exact rfl; exact rfl; exact rfl) | (apply WO.pl; exact rfl; exact rfl) | (apply WO.pp; exact rfl; exact rfl)
          exact hEnd _ rfl rfl
        · have ok21 : ∀ (h : Heap), M.ext 21 [.sl h.length 0 l.length 1 (some l.length), .int .i64 0, .int .i64 0, .sl (h ++ [some (Blk.cells (ints (l.map (rankM l))) 3)]).length 0 l.length 1 none] ((h ++ [some (.cells (ints (l.map (rankM l))) 3)]) ++ [some (.cells (ints (l.map (rankM l))) 3)]) = some ⟨.bool true, (h ++ [some (.cells (ints (l.map (rankM l))) 3)]) ++ [some (.cells (ints (l.map (rankM l))) 3)], []⟩ := fun h => by
            rw [C.c21 _ _ (l.map (rankM l)) (l.map (rankM l)) 0 0 _ (ranks_at (at_old at_new) (by simp)) (ranks_at at_new (by simp)) (by simp; omega)]
            simp
          simp only [if_neg hl] at q50
          repeat' first | apply W.seq | apply SQn | apply W.region | apply WO.nil | apply W.block | apply W.ret | apply W.exit | apply W.skip | apply SQr | apply SQe | apply BQn | apply BQr | apply BQe | (apply BQo; exact rfl) | apply LQe | apply LQr | (apply W.condT; exact rfl) | (apply W.condF; exact rfl) | (apply W.cond; exact rfl; all_goals intro _) | (apply WO.gT; exact rfl) | (apply WO.gF; exact rfl) | (apply WO.sT; exact rfl) | (apply WO.sF; exact rfl) | (apply WO.sU; exact rfl) | (apply WO.gtr; exact rfl; exact rfl; all_goals first | (intro _; exfalso; omega) | intro _) | (apply WO.eql; exact rfl; exact rfl; all_goals first | (intro _; exfalso; omega) | intro _) | (apply WO.neq; exact rfl; exact rfl; all_goals first | (intro _; exfalso; omega) | intro _) | (apply WO.pkT; exact rfl; exact rfl) | (apply WO.pkF; exact rfl; exact rfl) | (apply WO.cll; exact rfl; exact rfl; first | exact q48 _ | exact q49 _ | exact q50 _ | exact ok21 _) | (apply WO.seql; exact rfl; exact rfl; all_goals first | (intro h; exact absurd h (by decide)) | (intro h; exact absurd rfl h) | (intro h; contradiction) | intro _) | (apply WO.sneq; exact rfl; exact rfl; all_goals first | (intro h; exact absurd h (by decide)) | (intro h; exact absurd rfl h) | (intro h; contradiction) | intro _) | (apply WO.clb; exact rfl; exact rfl; exact rfl; all_goals first | (intro h; exact absurd h (by decide)) | intro _) | (apply WO.cll; exact rfl; exact rfl; exact rfl) | (apply WO.pl; exact rfl; exact rfl) | (apply WO.pp; exact rfl; exact rfl)
          exact hEnd _ rfl rfl
    · have q49 := fun h => C.c49e l none h (by omega) hE
      have bad21 : ∀ (h : Heap), M.ext 21 [.nilsl, .int .i64 (marksE l), .int .i64 (marksE l), .nilsl] h = some ⟨.bool true, h, []⟩ := fun h => by
        rw [C.c21 _ _ [] [] _ _ h rfl rfl (by simp), if_pos hE]; simp
      generalize marksE l = e at *
      repeat' first | apply W.seq | apply SQn | apply W.region | apply WO.nil | apply W.block | apply W.ret | apply W.exit | apply W.skip | apply SQr | apply SQe | apply BQn | apply BQr | apply BQe | (apply BQo; exact rfl) | apply LQe | apply LQr | (apply W.condT; exact rfl) | (apply W.condF; exact rfl) | (apply W.cond; exact rfl; all_goals intro _) | (apply WO.gT; exact rfl) | (apply WO.gF; exact rfl) | (apply WO.sT; exact rfl) | (apply WO.sF; exact rfl) | (apply WO.sU; exact rfl) | (apply WO.gtr; exact rfl; exact rfl; all_goals first | (intro _; exfalso; omega) | intro _) | (apply WO.eql; exact rfl; exact rfl; all_goals first | (intro _; exfalso; omega) | intro _) | (apply WO.neq; exact rfl; exact rfl; all_goals first | (intro _; exfalso; omega) | intro _) | (apply WO.pkT; exact rfl; exact rfl) | (apply WO.pkF; exact rfl; exact rfl) | (apply WO.cll; exact rfl; exact rfl; first | exact q48 _ | exact q49 _ | exact bad21 _) | (apply WO.seql; exact rfl; exact rfl; all_goals first | (intro h; exact absurd h (by decide)) | (intro h; exact absurd rfl h) | (intro h; contradiction) | intro _) | (apply WO.sneq; exact rfl; exact rfl; all_goals first | (intro h; exact absurd h (by decide)) | (intro h; exact absurd rfl h) | (intro h; contradiction) | intro _) | (apply WO.clb; exact rfl; exact rfl; exact rfl; all_goals first | (intro h; exact absurd h (by decide)) | intro _) | (apply WO.cll; exact rfl; exact rfl; exact rfl) | (apply WO.pl; exact rfl; exact rfl) | (apply WO.pp; exact rfl; exact rfl)
      exact hEnd _ rfl rfl
  · repeat' first | apply W.seq | apply SQn | apply W.region | apply WO.nil | apply W.block | apply W.ret | apply W.exit | apply W.skip | apply SQr | apply SQe | apply BQn | apply BQr | apply BQe | (apply BQo; exact rfl) | apply LQe | apply LQr | (apply W.condT; exact rfl) | (apply W.condF; exact rfl) | (apply W.cond; exact rfl; all_goals intro _) | (apply WO.gT; exact rfl) | (apply WO.gF; exact rfl) | (apply WO.sT; exact rfl) | (apply WO.sF; exact rfl) | (apply WO.sU; exact rfl) | (apply WO.gtr; exact rfl; exact rfl; all_goals first | (intro _; exfalso; omega) | intro _) | (apply WO.eql; exact rfl; exact rfl; all_goals first | (intro _; exfalso; omega) | intro _) | (apply WO.neq; exact rfl; exact rfl; all_goals first | (intro _; exfalso; omega) | intro _) | (apply WO.pkT; exact rfl; exact rfl) | (apply WO.pkF; exact rfl; exact rfl) | (apply WO.seql; exact rfl; exact rfl; all_goals first | (intro h; exact absurd h (by decide)) | (intro h; exact absurd rfl h) | (intro h; contradiction) | intro _) | (apply WO.sneq; exact rfl; exact rfl; all_goals first | (intro h; exact absurd h (by decide)) | (intro h; exact absurd rfl h) | (intro h; contradiction) | intro _) | (apply WO.clb; exact rfl; exact rfl; exact rfl; all_goals first | (intro h; exact absurd h (by decide)) | intro _) | (apply WO.cll; exact rfl; exact rfl; exact rfl) | (apply WO.pl; exact rfl; exact rfl) | (apply WO.pp; exact rfl; exact rfl)
    exact hEnd _ rfl rfl
end Go.Ab.Ch1


/-
  Own work: the contracts of ranks.
-/
namespace Go.Ab.Ch1
open Go.Proofs

theorem cm_top (l : List Mk) : topL (arr cm l) = 0 := topL_arr (fun _ => rfl) l
/-! slices.Clone. -/
theorem wrok_same {h : Heap} {v : AV} : WrOK h ⟨v, h, []⟩ := ⟨Nat.le_refl _, fun _ _ _ => rfl⟩
theorem clone130 : SpecOK Tryz.prog gl 130 specClone := by
  intro xs h r hq
  unfold specClone at hq
  split at hq
  · rename_i cs k cap
    split at hq
    · rename_i hd
      split at hq
      · rename_i hk
        cases hq
        obtain rfl : cs = [] := decMks_eq hd
        subst hk
        refine ent_empty (esz := 3) (J := [some (.cells [] 49)]) (r := .sl (h ++ [none]).length 0 0 3 (some 0)) ?_ (fun n => ?_) (fun ρ w v hv => ?_)
        · exact run_ok seat (T := []) tab_nil (w130nil mach_ft h) wrok_same
        · exact run_ok seat (T := []) tab_nil (w130dead mach_ft h n) ⟨by simp, fun b hb _ => by
            show ((h ++ [none]) ++ [some (Blk.cells [] 49)])[b]? = (h ++ [none])[b]?
            rw [List.getElem?_append_left hb]⟩
        · cases hv with
          | sl h1 h2 h3 h4 => exact .vs _ _ (fun _ => .bool false) (fun h => absurd rfl h) (Nat.zero_le _) (fun n hn => by cases hn) (fun i hi => absurd hi (Nat.not_lt_zero _)) (fun i x hx => by simp at hx)
          | slD c o' h1 h2 h3 => exact .vs _ _ (fun _ => .bool false) (fun h => absurd rfl h) (Nat.zero_le _) (fun n hn => by cases hn) (fun i hi => absurd hi (Nat.not_lt_zero _)) (fun i x hx => by simp at hx)
      · cases hq
    · rename_i l hne hl
      split at hq
      · rename_i hk
        cases hq
        obtain ⟨hk, hn⟩ := hk
        subst hk
        obtain rfl := decMks_eq hl
        have hne' : l ≠ [] := fun h => hne h
        exact ent_run1 seat (T := []) tab_nil (w130 mach_ft l cap hne' hn) (FrL.same (by simp only [topL, AV.top, cm_top]; rfl)) (k := 1) (.sl (i := 0) rfl) rfl (cm_top l) (.inl rfl) (.inl rfl)
      · cases hq
    · cases hq
  · cases hq

/-! mark.Ranks. -/
def TRk : List (Nat × Spec) := [(36, specChk), (114, specDiffer), (97, specWhen), (96, specFirst), (115, specCmp), (130, specClone)]
theorem TRk_ok : ExtOK Tryz.prog gl (extS TRk) := tab_cons chk36 (tab_cons differ114 (tab_cons when97 (tab_cons first96 (tab_cons cmp115 (tab_cons clone130 tab_nil)))))
theorem cpq : CPq (mach Tryz.prog FT TRk) where
  ft := mach_ft
  n131 _ _ := rfl
  n190 _ _ := rfl
  n191 _ _ := rfl
  n231 _ _ := rfl
  n240 _ _ := rfl
theorem two_at {h : Heap} {a b : Int} : intsAt (h ++ [some (.cells [.int .i64 a, .int .i64 b] 25)]) (.sl h.length 0 2 1 (some 2)) = some [a, b] := by
  have e : Heap.at (h ++ [some (.cells [.int .i64 a, .int .i64 b] 25)]) h.length = some (.cells (ints [a, b]) 25) := at_new
  exact ranks_at e rfl
theorem crk : CRk (mach Tryz.prog FT TRk) where
  pq := cpq
  n132 _ _ := rfl
  c36 _ _ := by rw [mach_ext]; rfl
  c114 _ _ _ := by rw [mach_ext]; rfl
  c97 _ _ _ := by rw [mach_ext]; rfl
  c96 a b h := by
    rw [mach_ext]
    show specFirst [.sl h.length 0 2 1 (some 2)] _ = _
    simp only [specFirst, two_at]
    rfl
  c115 x y hp := CT.ext (by rw [mach_ext]; rfl)
  c130 _ _ := by rw [mach_ext]; rfl
def specRanks (B : Nat) : Spec := fun
  | [v], h => match marksAt h v with
    | some l => if l.length < 1000000 then
        if marksE l ≠ 0 then some ⟨.tup [.nilsl, .int .i64 (marksE l)], h, []⟩
        else if l.length ≤ B then some ⟨.tup [.sl h.length 0 l.length 1 (some l.length), .int .i64 0], h ++ [some (.cells (ints (l.map (rankM l))) 3)], []⟩ else none
      else none
    | none => none
  | _, _ => none
theorem ranks49_of {B : Nat} (hB : B ≤ 256) (hs : SortsM (mach Tryz.prog FT TRk) (fnM 115) cmpM B) : SpecOK Tryz.prog gl 49 (specRanks B) := by
  intro xs h r hq
  unfold specRanks at hq
  split at hq
  · split at hq
    · rename_i l hl
      split at hq
      · rename_i hn
        obtain ⟨S, cap, hf⟩ := (marksAt_sl hl).fr (fun _ => rfl)
        split at hq
        · rename_i hE
          cases hq
          by_cases h256 : 256 < l.length
          · have e5 : marksE l = 5 := by rw [marksE, if_pos h256]
            rw [e5]
            exact ent_run0 seat TRk_ok (w49many crk l h256 hn) (.cons hf .nil) rfl (.inr rfl)
          · have es := scan_marksE h256
            rw [← es] at hE ⊢
            exact ent_run0 seat TRk_ok (w49bad crk l (by omega) hE) (.cons hf .nil) rfl (.inr rfl)
        · rename_i hE
          split at hq
          · rename_i h30
            cases hq
            have es := scan_marksE (l := l) (by omega)
            obtain ⟨k1, hh, hat, hr⟩ := w49 (cap := cap) crk l hs (by omega) (by omega) (by rw [es]; exact Decidable.not_not.1 hE)
            refine ent_run1 seat TRk_ok hr (.cons hf .nil) (k := k1) (.tup rfl fun i x y hx hy => ?_) hat (ints_top _) (.inr (novL_ints _)) (.inr rfl)
            match i, hx, hy with
            | 0, hx, hy => cases hx; cases hy; exact .sl (i := 0) rfl
            | 1, hx, hy => cases hx; cases hy; exact .same rfl
          · cases hq
      · cases hq
    · cases hq
  · cases hq

/-! The reference. -/
def specMarksE : Spec := fun
  | [v], h => match marksAt h v with
    | some l => if l.length < 1000000 then some ⟨.int .i64 (marksE l), h, []⟩ else none
    | none => none
  | _, _ => none
def T35 : List (Nat × Spec) := [(35, specChk)]
theorem marks48 : SpecOK Tryz.prog gl 48 specMarksE := by
  intro xs h r hq
  unfold specMarksE at hq
  split at hq
  · split at hq
    · rename_i l hl
      split at hq
      · rename_i hn
        cases hq
        obtain ⟨S, cap, hf⟩ := (marksAt_sl hl).fr (fun _ => rfl)
        exact ent_run0 seat (T := T35) (tab_cons chk35 tab_nil) (w48 mach_ft (fun m h => by rw [mach_ext]; rfl) l cap hn) (.cons hf .nil) rfl (.inr rfl)
      · cases hq
    · cases hq
  · cases hq
def T39 : List (Nat × Spec) := [(39, specRefCmp)]
theorem cref {l : List Mk} (hE : marksE l = 0) : CRef (mach Tryz.prog FT T39) l where
  ft := mach_ft
  c39 i j h hi hj := by
    have h256 : ¬ 256 < l.length := fun h => by rw [marksE, if_pos h] at hE; exact absurd hE (by decide)
    rw [marksE, if_neg h256] at hE
    have mem : ∀ i, i < l.length → l[i]! ∈ l := fun i hi => by rw [getElem!_pos l i hi]; exact List.getElem_mem hi
    obtain ⟨a1, _, a3⟩ := refScan_ok l [] hE _ (mem i hi)
    obtain ⟨b1, _, _⟩ := refScan_ok l [] hE _ (mem j hj)
    have hd := a3 _ (mem j hj)
    rw [mach_ext]
    show specRefCmp [am l[i]!, am l[j]!] h = _
    show (if _ then _ else _) = _
    rw [if_pos ⟨a1, b1, hd⟩]
    rfl
def specRefRanks : Spec := fun
  | [v], h => match marksAt h v with
    | some l => if l.length < 1000000 ∧ marksE l = 0 then some (if l = [] then ⟨.nilsl, h, []⟩ else ⟨.sl h.length 0 l.length 1 none, h ++ [some (.cells (ints (l.map (rankM l))) 3)], []⟩) else none
    | none => none
  | _, _ => none
theorem ranks50 : SpecOK Tryz.prog gl 50 specRefRanks := by
  intro xs h r hq
  unfold specRefRanks at hq
  split at hq
  · split at hq
    · rename_i l hl
      split at hq
      · rename_i hn
        obtain ⟨S, cap, hf⟩ := (marksAt_sl hl).fr (fun _ => rfl)
        obtain ⟨v, hh, ho, hr⟩ := w50 (cref hn.2) cap hn.1
        have T39_ok : ExtOK Tryz.prog gl (extS T39) := tab_cons refCmp39 tab_nil
        rcases ho with ⟨h1, rfl⟩ | ⟨c, h0, rfl, h2⟩
        · have hl0 : l = [] := by simpa using h1
          rw [if_pos hl0] at hq
          cases hq
          exact ent_run0 seat T39_ok hr (.cons hf .nil) rfl (.inr rfl)
        · have hl0 : ¬ l = [] := fun h => h0 (by rw [h]; rfl)
          rw [if_neg hl0] at hq
          cases hq
          rw [List.length_map] at hr
          exact ent_run1 seat T39_ok hr (.cons hf .nil) (k := c) (.sl (i := 0) rfl) h2 (ints_top _) (.inr (novL_ints _)) (.inr rfl)
      · cases hq
    · cases hq
  · cases hq

end Go.Ab.Ch1


/-
  Own work: the heap sort of marks, and the reversal.
-/
namespace Go.Ab.Ch1
open Go.Sort (swp)
variable {M : Mach} {h : Heap} {b n : Nat} {cap : Option Nat} {g : AV} {c : Mk → Mk → Int}

structure CPd (M : Mach) : Prop extends CPq M where
  n232 : ∀ ars h, M.ext 232 ars h = none
  n233 : ∀ ars h, M.ext 233 ars h = none
  n234 : ∀ ars h, M.ext 234 ars h = none
  n235 : ∀ ars h, M.ext 235 ars h = none
  n236 : ∀ ars h, M.ext 236 ars h = none
  n237 : ∀ ars h, M.ext 237 ars h = none
  n238 : ∀ ars h, M.ext 238 ars h = none
  n270 : ∀ ars h, M.ext 270 ars h = none
  n271 : ∀ ars h, M.ext 271 ars h = none
  n272 : ∀ ars h, M.ext 272 ars h = none
  n273 : ∀ ars h, M.ext 273 ars h = none
  n274 : ∀ ars h, M.ext 274 ars h = none
  n311 : ∀ ars h, M.ext 311 ars h = none

theorem loop235 (hb : b < h.length) (hn : n < 2305843009213693952) (a1 a2 : AV) {Q : Ex → StW → Prop} : ∀ (r i j : Nat) (d : Array Mk) (lo : List (Nat × AV)) (wr : List Nat), j - i ≤ r → d.size = n → j < n → Only b wr →
    (∀ x y lo wr, Only b wr → Q (.exit 0) ⟨⟨[.sl b 0 n 3 cap, a1, a2, g, x, y], lo, mh h b (Go.Sort.reverseLoop i j d).toList, []⟩, wr⟩) →
    W M (.loop b235_0) ⟨⟨[.sl b 0 n 3 cap, a1, a2, g, .int .i64 i, .int .i64 j], lo, mh h b d.toList, []⟩, wr⟩ Q := by
  intro r
  induction r with
  | zero =>
    intro i j d lo wr hr hd hj hw hQ
    have e : Go.Sort.reverseLoop i j d = d := by rw [Go.Sort.reverseLoop, if_neg (by omega)]
    rw [e] at hQ
    refine W.loop ?_
    unfold b235_0
    repeat' first | apply W.seq | apply SQn | apply W.region | apply WO.nil | apply W.block | apply W.ret | apply W.exit | apply W.skip | apply SQr | apply SQe | apply BQn | apply BQr | apply BQe | (apply BQo; exact rfl) | apply LQe | apply LQr | (apply W.drawro; exact rfl) | apply W.draw | apply WD.nil | (apply WD.gT; exact rfl) | (apply WD.gF; exact rfl) | (apply WD.sT; exact rfl) | (apply WD.sF; exact rfl) | (apply WD.sU; exact rfl) | (apply WD.pure1; exact rfl) | (apply WD.load1; exact rfl; exact rfl; exact rfl) | (apply WD.store1; exact rfl; exact rfl; exact rfl) | (apply W.condT; exact rfl) | (apply W.condF; exact rfl) | (apply W.cond; exact rfl; all_goals intro _) | (apply WO.lss; exact rfl; exact rfl; all_goals first | (intro _; exfalso; omega) | intro _) | (apply WO.add; exact rfl; exact rfl; omega) | (apply WO.sub; exact rfl; exact rfl; omega) | (apply WO.iav; exact rfl; exact rfl; omega) | (apply WO.ias; exact rfl; exact rfl; omega) | (apply WO.lda; exact rfl; exact fun _ => rfl; (first | omega | (simp only [List.length_set]; omega) | (simp; omega)); decide; exact rfl; case ia => infer_instance) | (apply WO.lsa; exact rfl; (first | exact rfl | assumption | exact at_new | (apply at_old; assumption) | (apply at_put; first | assumption | (simp only [put_length]; assumption))); exact fun _ => rfl; (first | omega | (simp only [List.length_set]; omega) | (simp; omega)); decide; exact rfl; case ia => infer_instance) | (apply WO.sta; exact rfl; exact rfl; (first | exact rfl | assumption | exact at_new | (apply at_old; assumption) | (apply at_put; first | assumption | (simp only [put_length]; assumption))); exact fun _ => rfl; (first | omega | (simp only [List.length_set]; omega) | (simp; omega)); exact ⟨rfl, by decide, rfl⟩; exact rfl; case ia => infer_instance) | (apply WO.hlv; exact rfl; exact rfl; exact rfl) | (apply WO.hpv; exact rfl; exact rfl; exact rfl) | (apply WO.hnv; exact rfl; exact rfl; exact rfl) | (apply WO.pl; exact rfl; exact rfl) | (apply WO.pp; exact rfl; exact rfl)
    exact hQ _ _ _ _ hw
  | succ r ih =>
    intro i j d lo wr hr hd hj hw hQ
    have hl : d.toList.length = n := by simp [hd]
    have f1 : ((i : Int)).toNat = i := by omega
    have f2 : ((j : Int)).toNat = j := by omega
    refine W.loop ?_
    unfold b235_0
    repeat' first | apply W.seq | apply SQn | apply W.region | apply WO.nil | apply W.block | apply W.ret | apply W.exit | apply W.skip | apply SQr | apply SQe | apply BQn | apply BQr | apply BQe | (apply BQo; exact rfl) | apply LQe | apply LQr | (apply W.drawro; exact rfl) | apply W.draw | apply WD.nil | (apply WD.gT; exact rfl) | (apply WD.gF; exact rfl) | (apply WD.sT; exact rfl) | (apply WD.sF; exact rfl) | (apply WD.sU; exact rfl) | (apply WD.pure1; exact rfl) | (apply WD.load1; exact rfl; exact rfl; exact rfl) | (apply WD.store1; exact rfl; exact rfl; exact rfl) | (apply W.condT; exact rfl) | (apply W.condF; exact rfl) | (apply W.cond; exact rfl; all_goals intro _) | (apply WO.lss; exact rfl; exact rfl; all_goals first | (intro _; exfalso; omega) | intro _) | (apply WO.add; exact rfl; exact rfl; omega) | (apply WO.sub; exact rfl; exact rfl; omega) | (apply WO.iav; exact rfl; exact rfl; omega) | (apply WO.ias; exact rfl; exact rfl; omega) | (apply WO.lda; exact rfl; exact fun _ => rfl; (first | omega | (simp only [List.length_set]; omega) | (simp; omega)); decide; exact rfl; case ia => infer_instance) | (apply WO.lsa; exact rfl; (first | exact rfl | assumption | exact at_new | (apply at_old; assumption) | (apply at_put; first | assumption | (simp only [put_length]; assumption))); exact fun _ => rfl; (first | omega | (simp only [List.length_set]; omega) | (simp; omega)); decide; exact rfl; case ia => infer_instance) | (apply WO.sta; exact rfl; exact rfl; (first | exact rfl | assumption | exact at_new | (apply at_old; assumption) | (apply at_put; first | assumption | (simp only [put_length]; assumption))); exact fun _ => rfl; (first | omega | (simp only [List.length_set]; omega) | (simp; omega)); exact ⟨rfl, by decide, rfl⟩; exact rfl; case ia => infer_instance) | (apply WO.hlv; exact rfl; exact rfl; exact rfl) | (apply WO.hpv; exact rfl; exact rfl; exact rfl) | (apply WO.hnv; exact rfl; exact rfl; exact rfl) | (apply WO.pl; exact rfl; exact rfl) | (apply WO.pp; exact rfl; exact rfl)
    · have e : Go.Sort.reverseLoop i j d = Go.Sort.reverseLoop (i + 1) (j - 1) (swp d i j) := by rw [Go.Sort.reverseLoop, if_pos (by omega)]
      rw [e] at hQ
      refine LQn ?_
      rw [put_put, put_put, f1, f2, ← swp_list, show ((j : Int) - 1) = ((j - 1 : Nat) : Int) by omega]
      exact ih (i + 1) (j - 1) _ _ _ (by omega) (by rw [swp_len, hd]) (by omega) hw.cons.cons hQ
    · have e : Go.Sort.reverseLoop i j d = d := by rw [Go.Sort.reverseLoop, if_neg (by omega)]
      rw [e] at hQ
      exact hQ _ _ _ _ hw
theorem r235 (C : CPd M) (hb : b < h.length) (hn : n < 2305843009213693952) (d : Array Mk) (hd : d.size = n) (a e : Nat) (ha : a < e) (he : e ≤ n) :
    ∃ wr, Only b wr ∧ CT M (fnM 235) [.sl b 0 n 3 cap, .int .i64 a, .int .i64 e, g] (mh h b d.toList) ⟨.tup [], mh h b (Go.Sort.reverseRange d a e).toList, wr⟩ := by
  refine run_mh (by rw [C.ft]; exact ft235) (by simp) C.n235 hb ?_
  unfold b235
  simp only [List.map_cons, List.map_nil, List.getElem?_cons_zero, List.getElem?_cons_succ, List.getElem?_nil, Option.getD_some, Option.getD_none]
  repeat' first | apply W.seq | apply SQn | apply W.region | apply WO.nil | apply W.block | apply W.ret | apply W.exit | apply W.skip | apply SQr | apply SQe | apply BQn | apply BQr | apply BQe | (apply BQo; exact rfl) | apply LQe | apply LQr | (apply W.condT; exact rfl) | (apply W.condF; exact rfl) | (apply W.cond; exact rfl; all_goals intro _) | (apply WO.sub; exact rfl; exact rfl; omega) | (apply WO.pl; exact rfl; exact rfl) | (apply WO.pp; exact rfl; exact rfl)
  rw [show ((e : Int) - 1) = ((e - 1 : Nat) : Int) by omega]
  refine loop235 hb hn _ _ _ a (e - 1) d _ _ (Nat.le_refl _) hd (by omega) Only.nil (fun x y lo wr hw => ?_)
  repeat' first | apply W.seq | apply SQn | apply W.region | apply WO.nil | apply W.block | apply W.ret | apply W.exit | apply W.skip | apply SQr | apply SQe | apply BQn | apply BQr | apply BQe | (apply BQo; exact rfl) | apply LQe | apply LQr | (apply W.condT; exact rfl) | (apply W.condF; exact rfl) | (apply W.cond; exact rfl; all_goals intro _) | (apply WO.sub; exact rfl; exact rfl; omega) | (apply WO.pl; exact rfl; exact rfl) | (apply WO.pp; exact rfl; exact rfl)
  exact ⟨.inl rfl, rfl, _, rfl, hw, rfl⟩

set_option maxHeartbeats 1000000 in
theorem loop270 (hb : b < h.length) (hn : n < 2305843009213693952) (hc : CmpM M g c) (hi first : Nat) (hf : first + hi ≤ n) (a1 : AV) {Q : Ex → StW → Prop} : ∀ (r root : Nat) (d : Array Mk) (a6 : AV) (lo : List (Nat × AV)) (wr : List Nat), hi - root ≤ r → root ≤ n → d.size = n → Only b wr →
    (∀ e a5 a6 lo wr, e = .exit 0 ∨ e = .ret → Only b wr → Q e ⟨⟨[.sl b 0 n 3 cap, a1, .int .i64 hi, .int .i64 first, g, a5, a6], lo, mh h b (Go.Sort.siftDown (ltOf c) hi first root d).toList, []⟩, wr⟩) →
    W M (.loop b270_0) ⟨⟨[.sl b 0 n 3 cap, a1, .int .i64 hi, .int .i64 first, g, .int .i64 root, a6], lo, mh h b d.toList, []⟩, wr⟩ Q := by
  intro r
  induction r with
  | zero =>
    intro root d a6 lo wr hr hrn hd hw hQ
    have e : Go.Sort.siftDown (ltOf c) hi first root d = d := by rw [Go.Sort.siftDown, dif_pos (by omega)]
    rw [e] at hQ
    refine W.loop ?_
    unfold b270_0
    repeat' first | apply W.seq | apply SQn | apply W.region | apply WO.nil | apply W.block | apply W.ret | apply W.exit | apply W.skip | apply SQr | apply SQe | apply BQn | apply BQr | apply BQe | (apply BQo; exact rfl) | apply LQe | apply LQr | (apply W.drawro; exact rfl) | apply W.draw | apply WD.nil | (apply WD.gT; exact rfl) | (apply WD.gF; exact rfl) | (apply WD.sT; exact rfl) | (apply WD.sF; exact rfl) | (apply WD.sU; exact rfl) | (apply WD.pure1; exact rfl) | (apply WD.load1; exact rfl; exact rfl; exact rfl) | (apply WD.store1; exact rfl; exact rfl; exact rfl) | (apply WD.clb; exact rfl; exact rfl; exact rfl; exact rfl; all_goals first | (intro h; exact absurd h (by decide)) | intro _) | (apply WD.cl0; exact rfl; exact rfl; exact rfl; exact rfl) | (apply WD.cl1; exact rfl; exact rfl; exact rfl; exact rfl) | (apply W.condT; exact rfl) | (apply W.condF; exact rfl) | (apply W.cond; exact rfl; all_goals intro _) | (apply WO.gT; exact rfl) | (apply WO.gF; exact rfl) | (apply WO.sT; exact rfl) | (apply WO.sF; exact rfl) | (apply WO.sU; exact rfl) | (apply WO.lss; exact rfl; exact rfl; all_goals first | (intro _; exfalso; omega) | intro _) | (apply WO.geq; exact rfl; exact rfl; all_goals first | (intro _; exfalso; omega) | intro _) | (apply WO.pkT; exact rfl; exact rfl) | (apply WO.pkF; exact rfl; exact rfl) | (apply WO.add; exact rfl; exact rfl; omega) | (apply WO.mul; exact rfl; exact rfl; omega) | (apply WO.iav; exact rfl; exact rfl; omega) | (apply WO.ias; exact rfl; exact rfl; omega) | (apply WO.lda; exact rfl; exact fun _ => rfl; (first | omega | (simp only [List.length_set]; omega) | (simp; omega)); decide; exact rfl; case ia => infer_instance) | (apply WO.lsa; exact rfl; (first | exact rfl | assumption | exact at_new | (apply at_old; assumption) | (apply at_put; first | assumption | (simp only [put_length]; assumption))); exact fun _ => rfl; (first | omega | (simp only [List.length_set]; omega) | (simp; omega)); decide; exact rfl; case ia => infer_instance) | (apply WO.sta; exact rfl; exact rfl; (first | exact rfl | assumption | exact at_new | (apply at_old; assumption) | (apply at_put; first | assumption | (simp only [put_length]; assumption))); exact fun _ => rfl; (first | omega | (simp only [List.length_set]; omega) | (simp; omega)); exact ⟨rfl, by decide, rfl⟩; exact rfl; case ia => infer_instance) | (apply WO.clb; exact rfl; exact rfl; exact rfl; all_goals first | (intro h; exact absurd h (by decide)) | intro _) | (apply WO.cll; exact rfl; exact rfl; exact rfl) | (apply WO.hlv; exact rfl; exact rfl; exact rfl) | (apply WO.hpv; exact rfl; exact rfl; exact rfl) | (apply WO.hnv; exact rfl; exact rfl; exact rfl) | (apply WO.pl; exact rfl; exact rfl) | (apply WO.pp; exact rfl; exact rfl)
    exact hQ _ _ _ _ _ (.inl rfl) hw
  | succ r ih =>
    intro root d a6 lo wr hr hrn hd hw hQ
    have hl : d.toList.length = n := by simp [hd]
    have f1 : ((first : Int) + (2 * (root : Int) + 1)).toNat = first + (2 * root + 1) := by omega
    have f2 : ((first : Int) + (2 * (root : Int) + 1) + 1).toNat = first + (2 * root + 1) + 1 := by omega
    have f3 : ((first : Int) + (root : Int)).toNat = first + root := by omega
    have f4 : ((first : Int) + (2 * (root : Int) + 1 + 1)).toNat = first + (2 * root + 2) := by omega
    refine W.loop ?_
    unfold b270_0
    repeat' first | apply W.seq | apply SQn | apply W.region | apply WO.nil | apply W.block | apply W.ret | apply W.exit | apply W.skip | apply SQr | apply SQe | apply BQn | apply BQr | apply BQe | (apply BQo; exact rfl) | apply LQe | apply LQr | (apply W.drawro; exact rfl) | apply W.draw | apply WD.nil | (apply WD.gT; exact rfl) | (apply WD.gF; exact rfl) | (apply WD.sT; exact rfl) | (apply WD.sF; exact rfl) | (apply WD.sU; exact rfl) | (apply WD.pure1; exact rfl) | (apply WD.load1; exact rfl; exact rfl; exact rfl) | (apply WD.store1; exact rfl; exact rfl; exact rfl) | (apply WD.clb; exact rfl; exact rfl; exact rfl; exact rfl; all_goals first | (intro h; exact absurd h (by decide)) | intro _) | (apply WD.cl0; exact rfl; exact rfl; exact rfl; exact rfl) | (apply WD.cl1; exact rfl; exact rfl; exact rfl; exact rfl) | (apply W.condT; exact rfl) | (apply W.condF; exact rfl) | (apply W.cond; exact rfl; all_goals intro _) | (apply WO.gT; exact rfl) | (apply WO.gF; exact rfl) | (apply WO.sT; exact rfl) | (apply WO.sF; exact rfl) | (apply WO.sU; exact rfl) | (apply WO.lss; exact rfl; exact rfl; all_goals first | (intro _; exfalso; omega) | intro _) | (apply WO.geq; exact rfl; exact rfl; all_goals first | (intro _; exfalso; omega) | intro _) | (apply WO.pkT; exact rfl; exact rfl) | (apply WO.pkF; exact rfl; exact rfl) | (apply WO.add; exact rfl; exact rfl; omega) | (apply WO.mul; exact rfl; exact rfl; omega) | (apply WO.ct; exact rfl; exact rfl; first | exact hc _ _ _) | (apply WO.ctn; exact rfl; exact rfl; first | exact hc _ _ _) | (apply WD.ct; exact rfl; exact rfl; exact rfl; first | exact hc _ _ _) | (apply WO.iav; exact rfl; exact rfl; omega) | (apply WO.ias; exact rfl; exact rfl; omega) | (apply WO.lda; exact rfl; exact fun _ => rfl; (first | omega | (simp only [List.length_set]; omega) | (simp; omega)); decide; exact rfl; case ia => infer_instance) | (apply WO.lsa; exact rfl; (first | exact rfl | assumption | exact at_new | (apply at_old; assumption) | (apply at_put; first | assumption | (simp only [put_length]; assumption))); exact fun _ => rfl; (first | omega | (simp only [List.length_set]; omega) | (simp; omega)); decide; exact rfl; case ia => infer_instance) | (apply WO.sta; exact rfl; exact rfl; (first | exact rfl | assumption | exact at_new | (apply at_old; assumption) | (apply at_put; first | assumption | (simp only [put_length]; assumption))); exact fun _ => rfl; (first | omega | (simp only [List.length_set]; omega) | (simp; omega)); exact ⟨rfl, by decide, rfl⟩; exact rfl; case ia => infer_instance) | (apply WO.clb; exact rfl; exact rfl; exact rfl; all_goals first | (intro h; exact absurd h (by decide)) | intro _) | (apply WO.cll; exact rfl; exact rfl; exact rfl) | (apply WO.hlv; exact rfl; exact rfl; exact rfl) | (apply WO.hpv; exact rfl; exact rfl; exact rfl) | (apply WO.hnv; exact rfl; exact rfl; exact rfl) | (apply WO.pl; exact rfl; exact rfl) | (apply WO.pp; exact rfl; exact rfl)
    · have e : Go.Sort.siftDown (ltOf c) hi first root d = d := by rw [Go.Sort.siftDown, dif_pos (by omega)]
      rw [e] at hQ
      exact hQ _ _ _ _ _ (.inl rfl) hw
    · rename_i g1 g2 g3 g4
      simp only [f1, f2, f3, f4, at_list] at g3 g4
      have e : Go.Sort.siftDown (ltOf c) hi first root d = Go.Sort.siftDown (ltOf c) hi first (2 * root + 2) (swp d (first + root) (first + (2 * root + 2))) := by
        rw [Go.Sort.siftDown, dif_neg (by omega), if_pos (by rw [decide_eq_true (show 2 * root + 1 + 1 < hi by omega), lt_t g3]; rfl), if_neg (by rw [lt_t g4]; decide), dif_pos (by omega)]
      rw [e] at hQ
      refine LQn ?_
      rw [put_put, put_put, f3, f4, ← swp_list, show (2 * (root : Int) + 1 + 1) = ((2 * root + 2 : Nat) : Int) by omega]
      exact ih (2 * root + 2) _ _ _ _ (by omega) (by omega) (by rw [swp_len, hd]) hw.cons.cons hQ
    · rename_i g1 g2 g3 g4
      simp only [f1, f2, f3, f4, at_list] at g3 g4
      have e : Go.Sort.siftDown (ltOf c) hi first root d = d := by
        rw [Go.Sort.siftDown, dif_neg (by omega), if_pos (by rw [decide_eq_true (show 2 * root + 1 + 1 < hi by omega), lt_t g3]; rfl), if_pos (by rw [lt_f (by omega)]; rfl)]
      rw [e] at hQ
      exact hQ _ _ _ _ _ (.inr rfl) hw
    · rename_i g1 g2 g3 g4
      simp only [f1, f2, f3, at_list] at g3 g4
      have e : Go.Sort.siftDown (ltOf c) hi first root d = Go.Sort.siftDown (ltOf c) hi first (2 * root + 1) (swp d (first + root) (first + (2 * root + 1))) := by
        rw [Go.Sort.siftDown, dif_neg (by omega), if_neg (by rw [decide_eq_true (show 2 * root + 1 + 1 < hi by omega), lt_f (by omega)]; decide), if_neg (by rw [lt_t g4]; decide)]
      rw [e] at hQ
      refine LQn ?_
      rw [put_put, put_put, f3, f1, ← swp_list, show (2 * (root : Int) + 1) = ((2 * root + 1 : Nat) : Int) by omega]
      exact ih (2 * root + 1) _ _ _ _ (by omega) (by omega) (by rw [swp_len, hd]) hw.cons.cons hQ
    · rename_i g1 g2 g3 g4
      simp only [f1, f2, f3, at_list] at g3 g4
      have e : Go.Sort.siftDown (ltOf c) hi first root d = d := by
        rw [Go.Sort.siftDown, dif_neg (by omega), if_neg (by rw [decide_eq_true (show 2 * root + 1 + 1 < hi by omega), lt_f (by omega)]; decide), if_pos (by rw [lt_f (by omega)]; rfl)]
      rw [e] at hQ
      exact hQ _ _ _ _ _ (.inr rfl) hw
    · rename_i g1 g2 g4
      simp only [f1, f3, at_list] at g4
      have e : Go.Sort.siftDown (ltOf c) hi first root d = Go.Sort.siftDown (ltOf c) hi first (2 * root + 1) (swp d (first + root) (first + (2 * root + 1))) := by
        rw [Go.Sort.siftDown, dif_neg (by omega), if_neg (by rw [decide_eq_false (show ¬ 2 * root + 1 + 1 < hi by omega)]; simp), if_neg (by rw [lt_t g4]; decide)]
      rw [e] at hQ
      refine LQn ?_
      rw [put_put, put_put, f3, f1, ← swp_list, show (2 * (root : Int) + 1) = ((2 * root + 1 : Nat) : Int) by omega]
      exact ih (2 * root + 1) _ _ _ _ (by omega) (by omega) (by rw [swp_len, hd]) hw.cons.cons hQ
    · rename_i g1 g2 g4
      simp only [f1, f3, at_list] at g4
      have e : Go.Sort.siftDown (ltOf c) hi first root d = d := by
        rw [Go.Sort.siftDown, dif_neg (by omega), if_neg (by rw [decide_eq_false (show ¬ 2 * root + 1 + 1 < hi by omega)]; simp), if_pos (by rw [lt_f (by omega)]; rfl)]
      rw [e] at hQ
      exact hQ _ _ _ _ _ (.inr rfl) hw
theorem siftDown_size (lt : Mk → Mk → Bool) (hi first root : Nat) (d : Array Mk) : (Go.Sort.siftDown lt hi first root d).size = d.size := by
  fun_induction Go.Sort.siftDown lt hi first root d <;> simp_all [swp_len]
theorem r270 (C : CPd M) (hb : b < h.length) (hn : n < 2305843009213693952) (hc : CmpM M g c) (d : Array Mk) (hd : d.size = n) (lo hi first : Nat) (hlo : lo ≤ n) (hf : first + hi ≤ n) :
    ∃ wr, Only b wr ∧ CT M (fnM 270) [.sl b 0 n 3 cap, .int .i64 lo, .int .i64 hi, .int .i64 first, g] (mh h b d.toList) ⟨.tup [], mh h b (Go.Sort.siftDown (ltOf c) hi first lo d).toList, wr⟩ := by
  refine run_mh (by rw [C.ft]; exact ft270) (by simp) C.n270 hb ?_
  unfold b270
  simp only [List.map_cons, List.map_nil, List.getElem?_cons_zero, List.getElem?_cons_succ, List.getElem?_nil, Option.getD_some, Option.getD_none]
  repeat' first | apply W.seq | apply SQn | apply W.region | apply WO.nil | apply W.block | apply W.ret | apply W.exit | apply W.skip | apply SQr | apply SQe | apply BQn | apply BQr | apply BQe | (apply BQo; exact rfl) | apply LQe | apply LQr | (apply W.condT; exact rfl) | (apply W.condF; exact rfl) | (apply W.cond; exact rfl; all_goals intro _) | (apply WO.pl; exact rfl; exact rfl) | (apply WO.pp; exact rfl; exact rfl)
  refine loop270 hb hn hc hi first hf _ _ lo d _ _ _ (Nat.le_refl _) hlo hd Only.nil (fun e a5 a6 lo wr he hw => ?_)
  rcases he with rfl | rfl
  · repeat' first | apply W.seq | apply SQn | apply W.region | apply WO.nil | apply W.block | apply W.ret | apply W.exit | apply W.skip | apply SQr | apply SQe | apply BQn | apply BQr | apply BQe | (apply BQo; exact rfl) | apply LQe | apply LQr | (apply W.condT; exact rfl) | (apply W.condF; exact rfl) | (apply W.cond; exact rfl; all_goals intro _) | (apply WO.pl; exact rfl; exact rfl) | (apply WO.pp; exact rfl; exact rfl)
    exact ⟨.inl rfl, rfl, _, rfl, hw, rfl⟩
  · repeat' first | apply W.seq | apply SQn | apply W.region | apply WO.nil | apply W.block | apply W.ret | apply W.exit | apply W.skip | apply SQr | apply SQe | apply BQn | apply BQr | apply BQe | (apply BQo; exact rfl) | apply LQe | apply LQr | (apply W.condT; exact rfl) | (apply W.condF; exact rfl) | (apply W.cond; exact rfl; all_goals intro _) | (apply WO.pl; exact rfl; exact rfl) | (apply WO.pp; exact rfl; exact rfl)
    exact ⟨.inr rfl, rfl, _, rfl, hw, rfl⟩

theorem loop232_0 (C : CPd M) (hb : b < h.length) (hn : n < 2305843009213693952) (hc : CmpM M g c) (hi first : Nat) (hf : first + hi ≤ n) (a1 a2 a5 a8 : AV) {Q : Ex → StW → Prop} : ∀ (k : Nat) (d : Array Mk) (lo : List (Nat × AV)) (wr : List Nat), k ≤ n → d.size = n → Only b wr →
    (∀ x lo wr, Only b wr → Q (.exit 0) ⟨⟨[.sl b 0 n 3 cap, a1, a2, g, .int .i64 first, a5, .int .i64 hi, x, a8], lo, mh h b (Go.Sort.heapBuild (ltOf c) hi first k d).toList, []⟩, wr⟩) →
    W M (.loop b232_0) ⟨⟨[.sl b 0 n 3 cap, a1, a2, g, .int .i64 first, a5, .int .i64 hi, .int .i64 ((k : Int) - 1), a8], lo, mh h b d.toList, []⟩, wr⟩ Q := by
  intro k
  induction k with
  | zero =>
    intro d lo wr hk hd hw hQ
    refine W.loop ?_
    unfold b232_0
    repeat' first | apply W.seq | apply SQn | apply W.region | apply WO.nil | apply W.block | apply W.ret | apply W.exit | apply W.skip | apply SQr | apply SQe | apply BQn | apply BQr | apply BQe | (apply BQo; exact rfl) | apply LQe | apply LQr | (apply W.condT; exact rfl) | (apply W.condF; exact rfl) | (apply W.cond; exact rfl; all_goals intro _) | (apply WO.geq; exact rfl; exact rfl; all_goals first | (intro _; exfalso; omega) | intro _) | (apply WO.sub; exact rfl; exact rfl; omega) | (apply WO.clb; exact rfl; exact rfl; exact rfl; all_goals first | (intro h; exact absurd h (by decide)) | intro _) | (apply WO.cll; exact rfl; exact rfl; exact rfl) | (apply WO.pl; exact rfl; exact rfl) | (apply WO.pp; exact rfl; exact rfl)
    exact hQ _ _ _ hw
  | succ k ih =>
    intro d lo wr hk hd hw hQ
    obtain ⟨wr', hw', hcc⟩ := r270 (cap := cap) C hb hn hc d hd k hi first (by omega) hf
    have ek : (((k + 1 : Nat) : Int) - 1) = (k : Int) := by omega
    rw [ek]
    refine W.loop ?_
    unfold b232_0
    repeat' first | apply W.seq | apply SQn | apply W.region | apply WO.nil | apply W.block | apply W.ret | apply W.exit | apply W.skip | apply SQr | apply SQe | apply BQn | apply BQr | apply BQe | (apply BQo; exact rfl) | apply LQe | apply LQr | (apply W.condT; exact rfl) | (apply W.condF; exact rfl) | (apply W.cond; exact rfl; all_goals intro _) | (apply WO.geq; exact rfl; exact rfl; all_goals first | (intro _; exfalso; omega) | intro _) | (apply WO.sub; exact rfl; exact rfl; omega) | (apply WO.ct; exact rfl; exact rfl; first | exact hcc) | (apply WO.ctn; exact rfl; exact rfl; first | exact hcc) | (apply WD.ct; exact rfl; exact rfl; exact rfl; first | exact hcc) | (apply WO.clb; exact rfl; exact rfl; exact rfl; all_goals first | (intro h; exact absurd h (by decide)) | intro _) | (apply WO.cll; exact rfl; exact rfl; exact rfl) | (apply WO.pl; exact rfl; exact rfl) | (apply WO.pp; exact rfl; exact rfl)
    refine LQn ?_
    exact ih _ _ _ (by omega) (by rw [siftDown_size, hd]) (hw'.app hw) hQ
theorem loop232_1 (C : CPd M) (hb : b < h.length) (hn : n < 2305843009213693952) (hc : CmpM M g c) (hi first : Nat) (hf : first + hi ≤ n) (a1 a2 a7 : AV) {Q : Ex → StW → Prop} : ∀ (k : Nat) (d : Array Mk) (lo : List (Nat × AV)) (wr : List Nat), k ≤ hi → d.size = n → Only b wr →
    (∀ x lo wr, Only b wr → Q (.exit 2) ⟨⟨[.sl b 0 n 3 cap, a1, a2, g, .int .i64 first, .int .i64 0, .int .i64 hi, a7, x], lo, mh h b (Go.Sort.heapPop (ltOf c) first k d).toList, []⟩, wr⟩) →
    W M (.loop b232_1) ⟨⟨[.sl b 0 n 3 cap, a1, a2, g, .int .i64 first, .int .i64 0, .int .i64 hi, a7, .int .i64 ((k : Int) - 1)], lo, mh h b d.toList, []⟩, wr⟩ Q := by
  intro k
  induction k with
  | zero =>
    intro d lo wr hk hd hw hQ
    refine W.loop ?_
    unfold b232_1
    repeat' first | apply W.seq | apply SQn | apply W.region | apply WO.nil | apply W.block | apply W.ret | apply W.exit | apply W.skip | apply SQr | apply SQe | apply BQn | apply BQr | apply BQe | (apply BQo; exact rfl) | apply LQe | apply LQr | (apply W.drawro; exact rfl) | apply W.draw | apply WD.nil | (apply WD.gT; exact rfl) | (apply WD.gF; exact rfl) | (apply WD.sT; exact rfl) | (apply WD.sF; exact rfl) | (apply WD.sU; exact rfl) | (apply WD.pure1; exact rfl) | (apply WD.load1; exact rfl; exact rfl; exact rfl) | (apply WD.store1; exact rfl; exact rfl; exact rfl) | (apply WD.clb; exact rfl; exact rfl; exact rfl; exact rfl; all_goals first | (intro h; exact absurd h (by decide)) | intro _) | (apply WD.cl0; exact rfl; exact rfl; exact rfl; exact rfl) | (apply WD.cl1; exact rfl; exact rfl; exact rfl; exact rfl) | (apply W.condT; exact rfl) | (apply W.condF; exact rfl) | (apply W.cond; exact rfl; all_goals intro _) | (apply WO.geq; exact rfl; exact rfl; all_goals first | (intro _; exfalso; omega) | intro _) | (apply WO.add; exact rfl; exact rfl; omega) | (apply WO.sub; exact rfl; exact rfl; omega) | (apply WO.iav; exact rfl; exact rfl; omega) | (apply WO.ias; exact rfl; exact rfl; omega) | (apply WO.lda; exact rfl; exact fun _ => rfl; (first | omega | (simp only [List.length_set]; omega) | (simp; omega)); decide; exact rfl; case ia => infer_instance) | (apply WO.lsa; exact rfl; (first | exact rfl | assumption | exact at_new | (apply at_old; assumption) | (apply at_put; first | assumption | (simp only [put_length]; assumption))); exact fun _ => rfl; (first | omega | (simp only [List.length_set]; omega) | (simp; omega)); decide; exact rfl; case ia => infer_instance) | (apply WO.sta; exact rfl; exact rfl; (first | exact rfl | assumption | exact at_new | (apply at_old; assumption) | (apply at_put; first | assumption | (simp only [put_length]; assumption))); exact fun _ => rfl; (first | omega | (simp only [List.length_set]; omega) | (simp; omega)); exact ⟨rfl, by decide, rfl⟩; exact rfl; case ia => infer_instance) | (apply WO.clb; exact rfl; exact rfl; exact rfl; all_goals first | (intro h; exact absurd h (by decide)) | intro _) | (apply WO.cll; exact rfl; exact rfl; exact rfl) | (apply WO.hlv; exact rfl; exact rfl; exact rfl) | (apply WO.hpv; exact rfl; exact rfl; exact rfl) | (apply WO.hnv; exact rfl; exact rfl; exact rfl) | (apply WO.pl; exact rfl; exact rfl) | (apply WO.pp; exact rfl; exact rfl)
    exact hQ _ _ _ hw
  | succ k ih =>
    intro d lo wr hk hd hw hQ
    have hl : d.toList.length = n := by simp [hd]
    have f1 : ((first : Int) + (k : Int)).toNat = first + k := by omega
    have f2 : ((first : Int)).toNat = first := by omega
    obtain ⟨wr', hw', hcc⟩ := r270 (cap := cap) C hb hn hc (swp d first (first + k)) (by rw [swp_len, hd]) 0 k first (by omega) (by omega)
    have hcc' : CT M (fnM 270) [.sl b 0 n 3 cap, .int .i64 0, .int .i64 k, .int .i64 first, g] (((mh h b d.toList).put b (some (.cells (arr cm (d.toList.set ((first : Int)).toNat d.toList[((first : Int) + (k : Int)).toNat]!)) 49))).put b (some (.cells (arr cm ((d.toList.set ((first : Int)).toNat d.toList[((first : Int) + (k : Int)).toNat]!).set ((first : Int) + (k : Int)).toNat d.toList[((first : Int)).toNat]!)) 49))) ⟨.tup [], mh h b (Go.Sort.siftDown (ltOf c) k first 0 (swp d first (first + k))).toList, wr'⟩ := by
      rw [put_put, put_put, f1, f2, ← swp_list]; exact hcc
    have ek : (((k + 1 : Nat) : Int) - 1) = (k : Int) := by omega
    rw [ek]
    refine W.loop ?_
    unfold b232_1
    repeat' first | apply W.seq | apply SQn | apply W.region | apply WO.nil | apply W.block | apply W.ret | apply W.exit | apply W.skip | apply SQr | apply SQe | apply BQn | apply BQr | apply BQe | (apply BQo; exact rfl) | apply LQe | apply LQr | (apply W.drawro; exact rfl) | apply W.draw | apply WD.nil | (apply WD.gT; exact rfl) | (apply WD.gF; exact rfl) | (apply WD.sT; exact rfl) | (apply WD.sF; exact rfl) | (apply WD.sU; exact rfl) | (apply WD.pure1; exact rfl) | (apply WD.load1; exact rfl; exact rfl; exact rfl) | (apply WD.store1; exact rfl; exact rfl; exact rfl) | (apply WD.clb; exact rfl; exact rfl; exact rfl; exact rfl; all_goals first | (intro h; exact absurd h (by decide)) | intro _) | (apply WD.cl0; exact rfl; exact rfl; exact rfl; exact rfl) | (apply WD.cl1; exact rfl; exact rfl; exact rfl; exact rfl) | (apply W.condT; exact rfl) | (apply W.condF; exact rfl) | (apply W.cond; exact rfl; all_goals intro _) | (apply WO.geq; exact rfl; exact rfl; all_goals first | (intro _; exfalso; omega) | intro _) | (apply WO.add; exact rfl; exact rfl; omega) | (apply WO.sub; exact rfl; exact rfl; omega) | (apply WO.ct; exact rfl; exact rfl; first | exact hcc') | (apply WO.ctn; exact rfl; exact rfl; first | exact hcc') | (apply WD.ct; exact rfl; exact rfl; exact rfl; first | exact hcc') | (apply WO.iav; exact rfl; exact rfl; omega) | (apply WO.ias; exact rfl; exact rfl; omega) | (apply WO.lda; exact rfl; exact fun _ => rfl; (first | omega | (simp only [List.length_set]; omega) | (simp; omega)); decide; exact rfl; case ia => infer_instance) | (apply WO.lsa; exact rfl; (first | exact rfl | assumption | exact at_new | (apply at_old; assumption) | (apply at_put; first | assumption | (simp only [put_length]; assumption))); exact fun _ => rfl; (first | omega | (simp only [List.length_set]; omega) | (simp; omega)); decide; exact rfl; case ia => infer_instance) | (apply WO.sta; exact rfl; exact rfl; (first | exact rfl | assumption | exact at_new | (apply at_old; assumption) | (apply at_put; first | assumption | (simp only [put_length]; assumption))); exact fun _ => rfl; (first | omega | (simp only [List.length_set]; omega) | (simp; omega)); exact ⟨rfl, by decide, rfl⟩; exact rfl; case ia => infer_instance) | (apply WO.clb; exact rfl; exact rfl; exact rfl; all_goals first | (intro h; exact absurd h (by decide)) | intro _) | (apply WO.cll; exact rfl; exact rfl; exact rfl) | (apply WO.hlv; exact rfl; exact rfl; exact rfl) | (apply WO.hpv; exact rfl; exact rfl; exact rfl) | (apply WO.hnv; exact rfl; exact rfl; exact rfl) | (apply WO.pl; exact rfl; exact rfl) | (apply WO.pp; exact rfl; exact rfl)
    refine LQn ?_
    exact ih _ _ _ (by omega) (by rw [siftDown_size, swp_len, hd]) (hw'.app hw.cons.cons) hQ
theorem heapBuild_size (lt : Mk → Mk → Bool) (hi first : Nat) : ∀ (k : Nat) (d : Array Mk), (Go.Sort.heapBuild lt hi first k d).size = d.size
  | 0, _ => rfl
  | k + 1, d => by rw [Go.Sort.heapBuild, heapBuild_size lt hi first k, siftDown_size]
theorem r232 (C : CPd M) (hb : b < h.length) (hn : n < 2305843009213693952) (hc : CmpM M g c) (d : Array Mk) (hd : d.size = n) (a e : Nat) (ha : a < e) (he : e ≤ n) :
    ∃ wr, Only b wr ∧ CT M (fnM 232) [.sl b 0 n 3 cap, .int .i64 a, .int .i64 e, g] (mh h b d.toList) ⟨.tup [], mh h b (Go.Sort.heapSort (ltOf c) d a e).toList, wr⟩ := by
  refine run_mh (by rw [C.ft]; exact ft232) (by simp) C.n232 hb ?_
  unfold b232
  simp only [List.map_cons, List.map_nil, List.getElem?_cons_zero, List.getElem?_cons_succ, List.getElem?_nil, Option.getD_some, Option.getD_none]
  repeat' first | apply W.seq | apply SQn | apply W.region | apply WO.nil | apply W.block | apply W.ret | apply W.exit | apply W.skip | apply SQr | apply SQe | apply BQn | apply BQr | apply BQe | (apply BQo; exact rfl) | apply LQe | apply LQr | (apply W.condT; exact rfl) | (apply W.condF; exact rfl) | (apply W.cond; exact rfl; all_goals intro _) | (apply WO.sub; exact rfl; exact rfl; omega) | (apply WO.quop; exact rfl; exact rfl; omega; omega; intro _ _) | (apply WO.quon; exact rfl; exact rfl; omega; omega; intro _ _) | (apply WO.quo; exact rfl; exact rfl; omega; omega) | (apply WO.pl; exact rfl; exact rfl) | (apply WO.pp; exact rfl; exact rfl)
  rw [show ((e : Int) - (a : Int)) = ((e - a : Nat) : Int) by omega, show ((((e - a : Nat) : Int) - 1) / 2) = ((((e - a - 1) / 2 + 1 : Nat) : Int) - 1) by omega]
  refine loop232_0 C hb hn hc (e - a) a (by omega) _ _ _ _ ((e - a - 1) / 2 + 1) d _ _ (by omega) hd Only.nil (fun x lo wr hw => ?_)
  repeat' first | apply W.seq | apply SQn | apply W.region | apply WO.nil | apply W.block | apply W.ret | apply W.exit | apply W.skip | apply SQr | apply SQe | apply BQn | apply BQr | apply BQe | (apply BQo; exact rfl) | apply LQe | apply LQr | (apply W.condT; exact rfl) | (apply W.condF; exact rfl) | (apply W.cond; exact rfl; all_goals intro _) | (apply WO.sub; exact rfl; exact rfl; omega) | (apply WO.quop; exact rfl; exact rfl; omega; omega; intro _ _) | (apply WO.quon; exact rfl; exact rfl; omega; omega; intro _ _) | (apply WO.quo; exact rfl; exact rfl; omega; omega) | (apply WO.pl; exact rfl; exact rfl) | (apply WO.pp; exact rfl; exact rfl)
  refine loop232_1 C hb hn hc (e - a) a (by omega) _ _ _ (e - a) _ _ _ (Nat.le_refl _) (by rw [heapBuild_size, hd]) hw (fun x lo wr hw => ?_)
  repeat' first | apply W.seq | apply SQn | apply W.region | apply WO.nil | apply W.block | apply W.ret | apply W.exit | apply W.skip | apply SQr | apply SQe | apply BQn | apply BQr | apply BQe | (apply BQo; exact rfl) | apply LQe | apply LQr | (apply W.condT; exact rfl) | (apply W.condF; exact rfl) | (apply W.cond; exact rfl; all_goals intro _) | (apply WO.sub; exact rfl; exact rfl; omega) | (apply WO.quop; exact rfl; exact rfl; omega; omega; intro _ _) | (apply WO.quon; exact rfl; exact rfl; omega; omega; intro _ _) | (apply WO.quo; exact rfl; exact rfl; omega; omega) | (apply WO.pl; exact rfl; exact rfl) | (apply WO.pp; exact rfl; exact rfl)
  exact ⟨.inl rfl, rfl, _, rfl, hw, rfl⟩
end Go.Ab.Ch1


/-
  Own work: the partitions of marks: the scans.
-/
namespace Go.Ab.Ch1
open Go.Sort (swp)
variable {M : Mach} {h : Heap} {b n : Nat} {cap : Option Nat} {g : AV} {c : Mk → Mk → Int}

theorem loop238_0 (hb : b < h.length) (hn : n < 2305843009213693952) (hc : CmpM M g c) (d : Array Mk) (hd : d.size = n) (a : Nat) (ha : a < n) (j : Nat) (hj : j < n) (a2 a3 a5 a6 : AV) (wr : List Nat) {Q : Ex → StW → Prop} : ∀ (r i : Nat) (lo : List (Nat × AV)), j + 1 - i ≤ r → i ≤ n →
    (∀ lo, Q (.exit 0) ⟨⟨[.sl b 0 n 3 cap, .int .i64 a, a2, a3, g, a5, a6, .int .i64 (Go.Sort.scanUp (fun x => ltOf c x d[a]!) d j i : Nat), .int .i64 j], lo, mh h b d.toList, []⟩, wr⟩) →
    W M (.loop b238_0) ⟨⟨[.sl b 0 n 3 cap, .int .i64 a, a2, a3, g, a5, a6, .int .i64 i, .int .i64 j], lo, mh h b d.toList, []⟩, wr⟩ Q := by
  intro r
  induction r with
  | zero =>
    intro i lo hr hi hQ
    have e : Go.Sort.scanUp (fun x => ltOf c x d[a]!) d j i = i := by rw [Go.Sort.scanUp, if_neg (by simp; omega)]
    rw [e] at hQ
    refine W.loop ?_
    unfold b238_0
    repeat' first | apply W.seq | apply SQn | apply W.region | apply WO.nil | apply W.block | apply W.ret | apply W.exit | apply W.skip | apply SQr | apply SQe | apply BQn | apply BQr | apply BQe | (apply BQo; exact rfl) | apply LQe | apply LQr | (apply W.drawro; exact rfl) | apply W.draw | apply WD.nil | (apply WD.gT; exact rfl) | (apply WD.gF; exact rfl) | (apply WD.sT; exact rfl) | (apply WD.sF; exact rfl) | (apply WD.sU; exact rfl) | (apply WD.pure1; exact rfl) | (apply WD.load1; exact rfl; exact rfl; exact rfl) | (apply WD.clb; exact rfl; exact rfl; exact rfl; exact rfl; all_goals first | (intro h; exact absurd h (by decide)) | intro _) | (apply WD.cl0; exact rfl; exact rfl; exact rfl; exact rfl) | (apply WD.cl1; exact rfl; exact rfl; exact rfl; exact rfl) | (apply W.condT; exact rfl) | (apply W.condF; exact rfl) | (apply W.cond; exact rfl; all_goals intro _) | (apply WO.gT; exact rfl) | (apply WO.gF; exact rfl) | (apply WO.sT; exact rfl) | (apply WO.sF; exact rfl) | (apply WO.sU; exact rfl) | (apply WO.lss; exact rfl; exact rfl; all_goals first | (intro _; exfalso; omega) | intro _) | (apply WO.leq; exact rfl; exact rfl; all_goals first | (intro _; exfalso; omega) | intro _) | (apply WO.pkT; exact rfl; exact rfl) | (apply WO.pkF; exact rfl; exact rfl) | (apply WO.add; exact rfl; exact rfl; omega) | (apply WO.iav; exact rfl; exact rfl; omega) | (apply WO.ias; exact rfl; exact rfl; omega) | (apply WO.lda; exact rfl; exact fun _ => rfl; (first | omega | (simp only [List.length_set]; omega) | (simp; omega)); decide; exact rfl; case ia => infer_instance) | (apply WO.lsa; exact rfl; (first | exact rfl | assumption | exact at_new | (apply at_old; assumption) | (apply at_put; first | assumption | (simp only [put_length]; assumption))); exact fun _ => rfl; (first | omega | (simp only [List.length_set]; omega) | (simp; omega)); decide; exact rfl; case ia => infer_instance) | (apply WO.clb; exact rfl; exact rfl; exact rfl; all_goals first | (intro h; exact absurd h (by decide)) | intro _) | (apply WO.cll; exact rfl; exact rfl; exact rfl) | (apply WO.hlv; exact rfl; exact rfl; exact rfl) | (apply WO.hpv; exact rfl; exact rfl; exact rfl) | (apply WO.hnv; exact rfl; exact rfl; exact rfl) | (apply WO.pl; exact rfl; exact rfl) | (apply WO.pp; exact rfl; exact rfl)
    exact hQ _
  | succ r ih =>
    intro i lo hr hi hQ
    have hl : d.toList.length = n := by simp [hd]
    have f1 : ((i : Int)).toNat = i := by omega
    have f2 : ((a : Int)).toNat = a := by omega
    refine W.loop ?_
    unfold b238_0
    repeat' first | apply W.seq | apply SQn | apply W.region | apply WO.nil | apply W.block | apply W.ret | apply W.exit | apply W.skip | apply SQr | apply SQe | apply BQn | apply BQr | apply BQe | (apply BQo; exact rfl) | apply LQe | apply LQr | (apply W.drawro; exact rfl) | apply W.draw | apply WD.nil | (apply WD.gT; exact rfl) | (apply WD.gF; exact rfl) | (apply WD.sT; exact rfl) | (apply WD.sF; exact rfl) | (apply WD.sU; exact rfl) | (apply WD.pure1; exact rfl) | (apply WD.load1; exact rfl; exact rfl; exact rfl) | (apply WD.clb; exact rfl; exact rfl; exact rfl; exact rfl; all_goals first | (intro h; exact absurd h (by decide)) | intro _) | (apply WD.cl0; exact rfl; exact rfl; exact rfl; exact rfl) | (apply WD.cl1; exact rfl; exact rfl; exact rfl; exact rfl) | (apply W.condT; exact rfl) | (apply W.condF; exact rfl) | (apply W.cond; exact rfl; all_goals intro _) | (apply WO.gT; exact rfl) | (apply WO.gF; exact rfl) | (apply WO.sT; exact rfl) | (apply WO.sF; exact rfl) | (apply WO.sU; exact rfl) | (apply WO.lss; exact rfl; exact rfl; all_goals first | (intro _; exfalso; omega) | intro _) | (apply WO.leq; exact rfl; exact rfl; all_goals first | (intro _; exfalso; omega) | intro _) | (apply WO.pkT; exact rfl; exact rfl) | (apply WO.pkF; exact rfl; exact rfl) | (apply WO.add; exact rfl; exact rfl; omega) | (apply WO.ct; exact rfl; exact rfl; first | exact hc _ _ _) | (apply WO.ctn; exact rfl; exact rfl; first | exact hc _ _ _) | (apply WD.ct; exact rfl; exact rfl; exact rfl; first | exact hc _ _ _) | (apply WO.iav; exact rfl; exact rfl; omega) | (apply WO.ias; exact rfl; exact rfl; omega) | (apply WO.lda; exact rfl; exact fun _ => rfl; (first | omega | (simp only [List.length_set]; omega) | (simp; omega)); decide; exact rfl; case ia => infer_instance) | (apply WO.lsa; exact rfl; (first | exact rfl | assumption | exact at_new | (apply at_old; assumption) | (apply at_put; first | assumption | (simp only [put_length]; assumption))); exact fun _ => rfl; (first | omega | (simp only [List.length_set]; omega) | (simp; omega)); decide; exact rfl; case ia => infer_instance) | (apply WO.clb; exact rfl; exact rfl; exact rfl; all_goals first | (intro h; exact absurd h (by decide)) | intro _) | (apply WO.cll; exact rfl; exact rfl; exact rfl) | (apply WO.hlv; exact rfl; exact rfl; exact rfl) | (apply WO.hpv; exact rfl; exact rfl; exact rfl) | (apply WO.hnv; exact rfl; exact rfl; exact rfl) | (apply WO.pl; exact rfl; exact rfl) | (apply WO.pp; exact rfl; exact rfl)
    · rename_i g1 g2
      simp only [f1, f2, at_list] at g2
      have e : Go.Sort.scanUp (fun x => ltOf c x d[a]!) d j i = Go.Sort.scanUp (fun x => ltOf c x d[a]!) d j (i + 1) := by
        rw [Go.Sort.scanUp, if_pos (by rw [decide_eq_true (show i ≤ j by omega)]; simp only [lt_t g2, Bool.true_and])]
      rw [e] at hQ
      exact LQn (ih (i + 1) _ (by omega) (by omega) hQ)
    · rename_i g1 g2
      simp only [f1, f2, at_list] at g2
      have e : Go.Sort.scanUp (fun x => ltOf c x d[a]!) d j i = i := by
        rw [Go.Sort.scanUp, if_neg (by simp only [lt_f (Int.not_lt.2 g2)]; simp)]
      rw [e] at hQ
      exact hQ _
    · have e : Go.Sort.scanUp (fun x => ltOf c x d[a]!) d j i = i := by rw [Go.Sort.scanUp, if_neg (by simp; omega)]
      rw [e] at hQ
      exact hQ _

theorem loop238_1 (hb : b < h.length) (hn : n < 2305843009213693952) (hc : CmpM M g c) (d : Array Mk) (hd : d.size = n) (a : Nat) (ha : a < n) (i : Nat) (hi : 1 ≤ i) (a2 a3 a5 a6 : AV) (wr : List Nat) {Q : Ex → StW → Prop} : ∀ (j : Nat) (lo : List (Nat × AV)), j < n →
    (∀ lo, Q (.exit 2) ⟨⟨[.sl b 0 n 3 cap, .int .i64 a, a2, a3, g, a5, a6, .int .i64 i, .int .i64 (Go.Sort.scanDown (fun x => !ltOf c x d[a]!) d i j : Nat)], lo, mh h b d.toList, []⟩, wr⟩) →
    W M (.loop b238_1) ⟨⟨[.sl b 0 n 3 cap, .int .i64 a, a2, a3, g, a5, a6, .int .i64 i, .int .i64 j], lo, mh h b d.toList, []⟩, wr⟩ Q := by
  intro j
  induction j with
  | zero =>
    intro lo hj hQ
    have e : Go.Sort.scanDown (fun x => !ltOf c x d[a]!) d i 0 = 0 := rfl
    rw [e] at hQ
    refine W.loop ?_
    unfold b238_1
    repeat' first | apply W.seq | apply SQn | apply W.region | apply WO.nil | apply W.block | apply W.ret | apply W.exit | apply W.skip | apply SQr | apply SQe | apply BQn | apply BQr | apply BQe | (apply BQo; exact rfl) | apply LQe | apply LQr | (apply W.drawro; exact rfl) | apply W.draw | apply WD.nil | (apply WD.gT; exact rfl) | (apply WD.gF; exact rfl) | (apply WD.sT; exact rfl) | (apply WD.sF; exact rfl) | (apply WD.sU; exact rfl) | (apply WD.pure1; exact rfl) | (apply WD.load1; exact rfl; exact rfl; exact rfl) | (apply WD.clb; exact rfl; exact rfl; exact rfl; exact rfl; all_goals first | (intro h; exact absurd h (by decide)) | intro _) | (apply WD.cl0; exact rfl; exact rfl; exact rfl; exact rfl) | (apply WD.cl1; exact rfl; exact rfl; exact rfl; exact rfl) | (apply W.condT; exact rfl) | (apply W.condF; exact rfl) | (apply W.cond; exact rfl; all_goals intro _) | (apply WO.gT; exact rfl) | (apply WO.gF; exact rfl) | (apply WO.sT; exact rfl) | (apply WO.sF; exact rfl) | (apply WO.sU; exact rfl) | (apply WO.lss; exact rfl; exact rfl; all_goals first | (intro _; exfalso; omega) | intro _) | (apply WO.leq; exact rfl; exact rfl; all_goals first | (intro _; exfalso; omega) | intro _) | (apply WO.pkT; exact rfl; exact rfl) | (apply WO.pkF; exact rfl; exact rfl) | (apply WO.sub; exact rfl; exact rfl; omega) | (apply WO.iav; exact rfl; exact rfl; omega) | (apply WO.ias; exact rfl; exact rfl; omega) | (apply WO.lda; exact rfl; exact fun _ => rfl; (first | omega | (simp only [List.length_set]; omega) | (simp; omega)); decide; exact rfl; case ia => infer_instance) | (apply WO.lsa; exact rfl; (first | exact rfl | assumption | exact at_new | (apply at_old; assumption) | (apply at_put; first | assumption | (simp only [put_length]; assumption))); exact fun _ => rfl; (first | omega | (simp only [List.length_set]; omega) | (simp; omega)); decide; exact rfl; case ia => infer_instance) | (apply WO.clb; exact rfl; exact rfl; exact rfl; all_goals first | (intro h; exact absurd h (by decide)) | intro _) | (apply WO.cll; exact rfl; exact rfl; exact rfl) | (apply WO.hlv; exact rfl; exact rfl; exact rfl) | (apply WO.hpv; exact rfl; exact rfl; exact rfl) | (apply WO.hnv; exact rfl; exact rfl; exact rfl) | (apply WO.pl; exact rfl; exact rfl) | (apply WO.pp; exact rfl; exact rfl)
    exact hQ _
  | succ j ih =>
    intro lo hj hQ
    have hl : d.toList.length = n := by simp [hd]
    have f1 : ((j + 1 : Nat) : Int).toNat = j + 1 := by omega
    have f2 : ((a : Int)).toNat = a := by omega
    refine W.loop ?_
    unfold b238_1
    repeat' first | apply W.seq | apply SQn | apply W.region | apply WO.nil | apply W.block | apply W.ret | apply W.exit | apply W.skip | apply SQr | apply SQe | apply BQn | apply BQr | apply BQe | (apply BQo; exact rfl) | apply LQe | apply LQr | (apply W.drawro; exact rfl) | apply W.draw | apply WD.nil | (apply WD.gT; exact rfl) | (apply WD.gF; exact rfl) | (apply WD.sT; exact rfl) | (apply WD.sF; exact rfl) | (apply WD.sU; exact rfl) | (apply WD.pure1; exact rfl) | (apply WD.load1; exact rfl; exact rfl; exact rfl) | (apply WD.clb; exact rfl; exact rfl; exact rfl; exact rfl; all_goals first | (intro h; exact absurd h (by decide)) | intro _) | (apply WD.cl0; exact rfl; exact rfl; exact rfl; exact rfl) | (apply WD.cl1; exact rfl; exact rfl; exact rfl; exact rfl) | (apply W.condT; exact rfl) | (apply W.condF; exact rfl) | (apply W.cond; exact rfl; all_goals intro _) | (apply WO.gT; exact rfl) | (apply WO.gF; exact rfl) | (apply WO.sT; exact rfl) | (apply WO.sF; exact rfl) | (apply WO.sU; exact rfl) | (apply WO.lss; exact rfl; exact rfl; all_goals first | (intro _; exfalso; omega) | intro _) | (apply WO.leq; exact rfl; exact rfl; all_goals first | (intro _; exfalso; omega) | intro _) | (apply WO.pkT; exact rfl; exact rfl) | (apply WO.pkF; exact rfl; exact rfl) | (apply WO.sub; exact rfl; exact rfl; omega) | (apply WO.ct; exact rfl; exact rfl; first | exact hc _ _ _) | (apply WO.ctn; exact rfl; exact rfl; first | exact hc _ _ _) | (apply WD.ct; exact rfl; exact rfl; exact rfl; first | exact hc _ _ _) | (apply WO.iav; exact rfl; exact rfl; omega) | (apply WO.ias; exact rfl; exact rfl; omega) | (apply WO.lda; exact rfl; exact fun _ => rfl; (first | omega | (simp only [List.length_set]; omega) | (simp; omega)); decide; exact rfl; case ia => infer_instance) | (apply WO.lsa; exact rfl; (first | exact rfl | assumption | exact at_new | (apply at_old; assumption) | (apply at_put; first | assumption | (simp only [put_length]; assumption))); exact fun _ => rfl; (first | omega | (simp only [List.length_set]; omega) | (simp; omega)); decide; exact rfl; case ia => infer_instance) | (apply WO.clb; exact rfl; exact rfl; exact rfl; all_goals first | (intro h; exact absurd h (by decide)) | intro _) | (apply WO.cll; exact rfl; exact rfl; exact rfl) | (apply WO.hlv; exact rfl; exact rfl; exact rfl) | (apply WO.hpv; exact rfl; exact rfl; exact rfl) | (apply WO.hnv; exact rfl; exact rfl; exact rfl) | (apply WO.pl; exact rfl; exact rfl) | (apply WO.pp; exact rfl; exact rfl)
    · rename_i g1 g2
      simp only [f1, f2, at_list] at g2
      have e : Go.Sort.scanDown (fun x => !ltOf c x d[a]!) d i (j + 1) = j + 1 := by
        rw [Go.Sort.scanDown, if_neg (by simp only [lt_t g2]; simp)]
      rw [e] at hQ
      exact hQ _
    · rename_i g1 g2
      simp only [f1, f2, at_list] at g2
      have e : Go.Sort.scanDown (fun x => !ltOf c x d[a]!) d i (j + 1) = Go.Sort.scanDown (fun x => !ltOf c x d[a]!) d i j := by
        rw [Go.Sort.scanDown, if_pos (by rw [decide_eq_true (show i ≤ j + 1 by omega)]; simp only [lt_f (Int.not_lt.2 g2), Bool.true_and, Bool.not_false])]
      rw [e] at hQ
      refine LQn ?_
      rw [show (((j + 1 : Nat) : Int) - 1) = (j : Int) by omega]
      exact ih _ (by omega) hQ
    · have e : Go.Sort.scanDown (fun x => !ltOf c x d[a]!) d i (j + 1) = j + 1 := by rw [Go.Sort.scanDown, if_neg (by simp; omega)]
      rw [e] at hQ
      exact hQ _

theorem loop238_2 (hb : b < h.length) (hn : n < 2305843009213693952) (hc : CmpM M g c) (d : Array Mk) (hd : d.size = n) (a : Nat) (ha : a < n) (j : Nat) (hj : j < n) (a2 a3 a5 a6 : AV) (wr : List Nat) {Q : Ex → StW → Prop} : ∀ (r i : Nat) (lo : List (Nat × AV)), j + 1 - i ≤ r → i ≤ n →
    (∀ lo, Q (.exit 6) ⟨⟨[.sl b 0 n 3 cap, .int .i64 a, a2, a3, g, a5, a6, .int .i64 (Go.Sort.scanUp (fun x => ltOf c x d[a]!) d j i : Nat), .int .i64 j], lo, mh h b d.toList, []⟩, wr⟩) →
    W M (.loop b238_2) ⟨⟨[.sl b 0 n 3 cap, .int .i64 a, a2, a3, g, a5, a6, .int .i64 i, .int .i64 j], lo, mh h b d.toList, []⟩, wr⟩ Q := by
  intro r
  induction r with
  | zero =>
    intro i lo hr hi hQ
    have e : Go.Sort.scanUp (fun x => ltOf c x d[a]!) d j i = i := by rw [Go.Sort.scanUp, if_neg (by simp; omega)]
    rw [e] at hQ
    refine W.loop ?_
    unfold b238_2
    repeat' first | apply W.seq | apply SQn | apply W.region | apply WO.nil | apply W.block | apply W.ret | apply W.exit | apply W.skip | apply SQr | apply SQe | apply BQn | apply BQr | apply BQe | (apply BQo; exact rfl) | apply LQe | apply LQr | (apply W.drawro; exact rfl) | apply W.draw | apply WD.nil | (apply WD.gT; exact rfl) | (apply WD.gF; exact rfl) | (apply WD.sT; exact rfl) | (apply WD.sF; exact rfl) | (apply WD.sU; exact rfl) | (apply WD.pure1; exact rfl) | (apply WD.load1; exact rfl; exact rfl; exact rfl) | (apply WD.clb; exact rfl; exact rfl; exact rfl; exact rfl; all_goals first | (intro h; exact absurd h (by decide)) | intro _) | (apply WD.cl0; exact rfl; exact rfl; exact rfl; exact rfl) | (apply WD.cl1; exact rfl; exact rfl; exact rfl; exact rfl) | (apply W.condT; exact rfl) | (apply W.condF; exact rfl) | (apply W.cond; exact rfl; all_goals intro _) | (apply WO.gT; exact rfl) | (apply WO.gF; exact rfl) | (apply WO.sT; exact rfl) | (apply WO.sF; exact rfl) | (apply WO.sU; exact rfl) | (apply WO.lss; exact rfl; exact rfl; all_goals first | (intro _; exfalso; omega) | intro _) | (apply WO.leq; exact rfl; exact rfl; all_goals first | (intro _; exfalso; omega) | intro _) | (apply WO.pkT; exact rfl; exact rfl) | (apply WO.pkF; exact rfl; exact rfl) | (apply WO.add; exact rfl; exact rfl; omega) | (apply WO.iav; exact rfl; exact rfl; omega) | (apply WO.ias; exact rfl; exact rfl; omega) | (apply WO.lda; exact rfl; exact fun _ => rfl; (first | omega | (simp only [List.length_set]; omega) | (simp; omega)); decide; exact rfl; case ia => infer_instance) | (apply WO.lsa; exact rfl; (first | exact rfl | assumption | exact at_new | (apply at_old; assumption) | (apply at_put; first | assumption | (simp only [put_length]; assumption))); exact fun _ => rfl; (first | omega | (simp only [List.length_set]; omega) | (simp; omega)); decide; exact rfl; case ia => infer_instance) | (apply WO.clb; exact rfl; exact rfl; exact rfl; all_goals first | (intro h; exact absurd h (by decide)) | intro _) | (apply WO.cll; exact rfl; exact rfl; exact rfl) | (apply WO.hlv; exact rfl; exact rfl; exact rfl) | (apply WO.hpv; exact rfl; exact rfl; exact rfl) | (apply WO.hnv; exact rfl; exact rfl; exact rfl) | (apply WO.pl; exact rfl; exact rfl) | (apply WO.pp; exact rfl; exact rfl)
    exact hQ _
  | succ r ih =>
    intro i lo hr hi hQ
    have hl : d.toList.length = n := by simp [hd]
    have f1 : ((i : Int)).toNat = i := by omega
    have f2 : ((a : Int)).toNat = a := by omega
    refine W.loop ?_
    unfold b238_2
    repeat' first | apply W.seq | apply SQn | apply W.region | apply WO.nil | apply W.block | apply W.ret | apply W.exit | apply W.skip | apply SQr | apply SQe | apply BQn | apply BQr | apply BQe | (apply BQo; exact rfl) | apply LQe | apply LQr | (apply W.drawro; exact rfl) | apply W.draw | apply WD.nil | (apply WD.gT; exact rfl) | (apply WD.gF; exact rfl) | (apply WD.sT; exact rfl) | (apply WD.sF; exact rfl) | (apply WD.sU; exact rfl) | (apply WD.pure1; exact rfl) | (apply WD.load1; exact rfl; exact rfl; exact rfl) | (apply WD.clb; exact rfl; exact rfl; exact rfl; exact rfl; all_goals first | (intro h; exact absurd h (by decide)) | intro _) | (apply WD.cl0; exact rfl; exact rfl; exact rfl; exact rfl) | (apply WD.cl1; exact rfl; exact rfl; exact rfl; exact rfl) | (apply W.condT; exact rfl) | (apply W.condF; exact rfl) | (apply W.cond; exact rfl; all_goals intro _) | (apply WO.gT; exact rfl) | (apply WO.gF; exact rfl) | (apply WO.sT; exact rfl) | (apply WO.sF; exact rfl) | (apply WO.sU; exact rfl) | (apply WO.lss; exact rfl; exact rfl; all_goals first | (intro _; exfalso; omega) | intro _) | (apply WO.leq; exact rfl; exact rfl; all_goals first | (intro _; exfalso; omega) | intro _) | (apply WO.pkT; exact rfl; exact rfl) | (apply WO.pkF; exact rfl; exact rfl) | (apply WO.add; exact rfl; exact rfl; omega) | (apply WO.ct; exact rfl; exact rfl; first | exact hc _ _ _) | (apply WO.ctn; exact rfl; exact rfl; first | exact hc _ _ _) | (apply WD.ct; exact rfl; exact rfl; exact rfl; first | exact hc _ _ _) | (apply WO.iav; exact rfl; exact rfl; omega) | (apply WO.ias; exact rfl; exact rfl; omega) | (apply WO.lda; exact rfl; exact fun _ => rfl; (first | omega | (simp only [List.length_set]; omega) | (simp; omega)); decide; exact rfl; case ia => infer_instance) | (apply WO.lsa; exact rfl; (first | exact rfl | assumption | exact at_new | (apply at_old; assumption) | (apply at_put; first | assumption | (simp only [put_length]; assumption))); exact fun _ => rfl; (first | omega | (simp only [List.length_set]; omega) | (simp; omega)); decide; exact rfl; case ia => infer_instance) | (apply WO.clb; exact rfl; exact rfl; exact rfl; all_goals first | (intro h; exact absurd h (by decide)) | intro _) | (apply WO.cll; exact rfl; exact rfl; exact rfl) | (apply WO.hlv; exact rfl; exact rfl; exact rfl) | (apply WO.hpv; exact rfl; exact rfl; exact rfl) | (apply WO.hnv; exact rfl; exact rfl; exact rfl) | (apply WO.pl; exact rfl; exact rfl) | (apply WO.pp; exact rfl; exact rfl)
    · rename_i g1 g2
      simp only [f1, f2, at_list] at g2
      have e : Go.Sort.scanUp (fun x => ltOf c x d[a]!) d j i = Go.Sort.scanUp (fun x => ltOf c x d[a]!) d j (i + 1) := by
        rw [Go.Sort.scanUp, if_pos (by rw [decide_eq_true (show i ≤ j by omega)]; simp only [lt_t g2, Bool.true_and])]
      rw [e] at hQ
      exact LQn (ih (i + 1) _ (by omega) (by omega) hQ)
    · rename_i g1 g2
      simp only [f1, f2, at_list] at g2
      have e : Go.Sort.scanUp (fun x => ltOf c x d[a]!) d j i = i := by
        rw [Go.Sort.scanUp, if_neg (by simp only [lt_f (Int.not_lt.2 g2)]; simp)]
      rw [e] at hQ
      exact hQ _
    · have e : Go.Sort.scanUp (fun x => ltOf c x d[a]!) d j i = i := by rw [Go.Sort.scanUp, if_neg (by simp; omega)]
      rw [e] at hQ
      exact hQ _

theorem loop238_3 (hb : b < h.length) (hn : n < 2305843009213693952) (hc : CmpM M g c) (d : Array Mk) (hd : d.size = n) (a : Nat) (ha : a < n) (i : Nat) (hi : 1 ≤ i) (a2 a3 a5 a6 : AV) (wr : List Nat) {Q : Ex → StW → Prop} : ∀ (j : Nat) (lo : List (Nat × AV)), j < n →
    (∀ lo, Q (.exit 8) ⟨⟨[.sl b 0 n 3 cap, .int .i64 a, a2, a3, g, a5, a6, .int .i64 i, .int .i64 (Go.Sort.scanDown (fun x => !ltOf c x d[a]!) d i j : Nat)], lo, mh h b d.toList, []⟩, wr⟩) →
    W M (.loop b238_3) ⟨⟨[.sl b 0 n 3 cap, .int .i64 a, a2, a3, g, a5, a6, .int .i64 i, .int .i64 j], lo, mh h b d.toList, []⟩, wr⟩ Q := by
  intro j
  induction j with
  | zero =>
    intro lo hj hQ
    have e : Go.Sort.scanDown (fun x => !ltOf c x d[a]!) d i 0 = 0 := rfl
    rw [e] at hQ
    refine W.loop ?_
    unfold b238_3
    repeat' first | apply W.seq | apply SQn | apply W.region | apply WO.nil | apply W.block | apply W.ret | apply W.exit | apply W.skip | apply SQr | apply SQe | apply BQn | apply BQr | apply BQe | (apply BQo; exact rfl) | apply LQe | apply LQr | (apply W.drawro; exact rfl) | apply W.draw | apply WD.nil | (apply WD.gT; exact rfl) | (apply WD.gF; exact rfl) | (apply WD.sT; exact rfl) | (apply WD.sF; exact rfl) | (apply WD.sU; exact rfl) | (apply WD.pure1; exact rfl) | (apply WD.load1; exact rfl; exact rfl; exact rfl) | (apply WD.clb; exact rfl; exact rfl; exact rfl; exact rfl; all_goals first | (intro h; exact absurd h (by decide)) | intro _) | (apply WD.cl0; exact rfl; exact rfl; exact rfl; exact rfl) | (apply WD.cl1; exact rfl; exact rfl; exact rfl; exact rfl) | (apply W.condT; exact rfl) | (apply W.condF; exact rfl) | (apply W.cond; exact rfl; all_goals intro _) | (apply WO.gT; exact rfl) | (apply WO.gF; exact rfl) | (apply WO.sT; exact rfl) | (apply WO.sF; exact rfl) | (apply WO.sU; exact rfl) | (apply WO.lss; exact rfl; exact rfl; all_goals first | (intro _; exfalso; omega) | intro _) | (apply WO.leq; exact rfl; exact rfl; all_goals first | (intro _; exfalso; omega) | intro _) | (apply WO.pkT; exact rfl; exact rfl) | (apply WO.pkF; exact rfl; exact rfl) | (apply WO.sub; exact rfl; exact rfl; omega) | (apply WO.iav; exact rfl; exact rfl; omega) | (apply WO.ias; exact rfl; exact rfl; omega) | (apply WO.lda; exact rfl; exact fun _ => rfl; (first | omega | (simp only [List.length_set]; omega) | (simp; omega)); decide; exact rfl; case ia => infer_instance) | (apply WO.lsa; exact rfl; (first | exact rfl | assumption | exact at_new | (apply at_old; assumption) | (apply at_put; first | assumption | (simp only [put_length]; assumption))); exact fun _ => rfl; (first | omega | (simp only [List.length_set]; omega) | (simp; omega)); decide; exact rfl; case ia => infer_instance) | (apply WO.clb; exact rfl; exact rfl; exact rfl; all_goals first | (intro h; exact absurd h (by decide)) | intro _) | (apply WO.cll; exact rfl; exact rfl; exact rfl) | (apply WO.hlv; exact rfl; exact rfl; exact rfl) | (apply WO.hpv; exact rfl; exact rfl; exact rfl) | (apply WO.hnv; exact rfl; exact rfl; exact rfl) | (apply WO.pl; exact rfl; exact rfl) | (apply WO.pp; exact rfl; exact rfl)
    exact hQ _
  | succ j ih =>
    intro lo hj hQ
    have hl : d.toList.length = n := by simp [hd]
    have f1 : ((j + 1 : Nat) : Int).toNat = j + 1 := by omega
    have f2 : ((a : Int)).toNat = a := by omega
    refine W.loop ?_
    unfold b238_3
    repeat' first | apply W.seq | apply SQn | apply W.region | apply WO.nil | apply W.block | apply W.ret | apply W.exit | apply W.skip | apply SQr | apply SQe | apply BQn | apply BQr | apply BQe | (apply BQo; exact rfl) | apply LQe | apply LQr | (apply W.drawro; exact rfl) | apply W.draw | apply WD.nil | (apply WD.gT; exact rfl) | (apply WD.gF; exact rfl) | (apply WD.sT; exact rfl) | (apply WD.sF; exact rfl) | (apply WD.sU; exact rfl) | (apply WD.pure1; exact rfl) | (apply WD.load1; exact rfl; exact rfl; exact rfl) | (apply WD.clb; exact rfl; exact rfl; exact rfl; exact rfl; all_goals first | (intro h; exact absurd h (by decide)) | intro _) | (apply WD.cl0; exact rfl; exact rfl; exact rfl; exact rfl) | (apply WD.cl1; exact rfl; exact rfl; exact rfl; exact rfl) | (apply W.condT; exact rfl) | (apply W.condF; exact rfl) | (apply W.cond; exact rfl; all_goals intro _) | (apply WO.gT; exact rfl) | (apply WO.gF; exact rfl) | (apply WO.sT; exact rfl) | (apply WO.sF; exact rfl) | (apply WO.sU; exact rfl) | (apply WO.lss; exact rfl; exact rfl; all_goals first | (intro _; exfalso; omega) | intro _) | (apply WO.leq; exact rfl; exact rfl; all_goals first | (intro _; exfalso; omega) | intro _) | (apply WO.pkT; exact rfl; exact rfl) | (apply WO.pkF; exact rfl; exact rfl) | (apply WO.sub; exact rfl; exact rfl; omega) | (apply WO.ct; exact rfl; exact rfl; first | exact hc _ _ _) | (apply WO.ctn; exact rfl; exact rfl; first | exact hc _ _ _) | (apply WD.ct; exact rfl; exact rfl; exact rfl; first | exact hc _ _ _) | (apply WO.iav; exact rfl; exact rfl; omega) | (apply WO.ias; exact rfl; exact rfl; omega) | (apply WO.lda; exact rfl; exact fun _ => rfl; (first | omega | (simp only [List.length_set]; omega) | (simp; omega)); decide; exact rfl; case ia => infer_instance) | (apply WO.lsa; exact rfl; (first | exact rfl | assumption | exact at_new | (apply at_old; assumption) | (apply at_put; first | assumption | (simp only [put_length]; assumption))); exact fun _ => rfl; (first | omega | (simp only [List.length_set]; omega) | (simp; omega)); decide; exact rfl; case ia => infer_instance) | (apply WO.clb; exact rfl; exact rfl; exact rfl; all_goals first | (intro h; exact absurd h (by decide)) | intro _) | (apply WO.cll; exact rfl; exact rfl; exact rfl) | (apply WO.hlv; exact rfl; exact rfl; exact rfl) | (apply WO.hpv; exact rfl; exact rfl; exact rfl) | (apply WO.hnv; exact rfl; exact rfl; exact rfl) | (apply WO.pl; exact rfl; exact rfl) | (apply WO.pp; exact rfl; exact rfl)
    · rename_i g1 g2
      simp only [f1, f2, at_list] at g2
      have e : Go.Sort.scanDown (fun x => !ltOf c x d[a]!) d i (j + 1) = j + 1 := by
        rw [Go.Sort.scanDown, if_neg (by simp only [lt_t g2]; simp)]
      rw [e] at hQ
      exact hQ _
    · rename_i g1 g2
      simp only [f1, f2, at_list] at g2
      have e : Go.Sort.scanDown (fun x => !ltOf c x d[a]!) d i (j + 1) = Go.Sort.scanDown (fun x => !ltOf c x d[a]!) d i j := by
        rw [Go.Sort.scanDown, if_pos (by rw [decide_eq_true (show i ≤ j + 1 by omega)]; simp only [lt_f (Int.not_lt.2 g2), Bool.true_and, Bool.not_false])]
      rw [e] at hQ
      refine LQn ?_
      rw [show (((j + 1 : Nat) : Int) - 1) = (j : Int) by omega]
      exact ih _ (by omega) hQ
    · have e : Go.Sort.scanDown (fun x => !ltOf c x d[a]!) d i (j + 1) = j + 1 := by rw [Go.Sort.scanDown, if_neg (by simp; omega)]
      rw [e] at hQ
      exact hQ _

theorem loop237_0 (hb : b < h.length) (hn : n < 2305843009213693952) (hc : CmpM M g c) (d : Array Mk) (hd : d.size = n) (a : Nat) (ha : a < n) (j : Nat) (hj : j < n) (a2 a3 a5 : AV) (wr : List Nat) {Q : Ex → StW → Prop} : ∀ (r i : Nat) (lo : List (Nat × AV)), j + 1 - i ≤ r → i ≤ n →
    (∀ lo, Q (.exit 2) ⟨⟨[.sl b 0 n 3 cap, .int .i64 a, a2, a3, g, a5, .int .i64 (Go.Sort.scanUp (fun x => !ltOf c d[a]! x) d j i : Nat), .int .i64 j], lo, mh h b d.toList, []⟩, wr⟩) →
    W M (.loop b237_0) ⟨⟨[.sl b 0 n 3 cap, .int .i64 a, a2, a3, g, a5, .int .i64 i, .int .i64 j], lo, mh h b d.toList, []⟩, wr⟩ Q := by
  intro r
  induction r with
  | zero =>
    intro i lo hr hi hQ
    have e : Go.Sort.scanUp (fun x => !ltOf c d[a]! x) d j i = i := by rw [Go.Sort.scanUp, if_neg (by simp; omega)]
    rw [e] at hQ
    refine W.loop ?_
    unfold b237_0
    repeat' first | apply W.seq | apply SQn | apply W.region | apply WO.nil | apply W.block | apply W.ret | apply W.exit | apply W.skip | apply SQr | apply SQe | apply BQn | apply BQr | apply BQe | (apply BQo; exact rfl) | apply LQe | apply LQr | (apply W.drawro; exact rfl) | apply W.draw | apply WD.nil | (apply WD.gT; exact rfl) | (apply WD.gF; exact rfl) | (apply WD.sT; exact rfl) | (apply WD.sF; exact rfl) | (apply WD.sU; exact rfl) | (apply WD.pure1; exact rfl) | (apply WD.load1; exact rfl; exact rfl; exact rfl) | (apply WD.clb; exact rfl; exact rfl; exact rfl; exact rfl; all_goals first | (intro h; exact absurd h (by decide)) | intro _) | (apply WD.cl0; exact rfl; exact rfl; exact rfl; exact rfl) | (apply WD.cl1; exact rfl; exact rfl; exact rfl; exact rfl) | (apply W.condT; exact rfl) | (apply W.condF; exact rfl) | (apply W.cond; exact rfl; all_goals intro _) | (apply WO.gT; exact rfl) | (apply WO.gF; exact rfl) | (apply WO.sT; exact rfl) | (apply WO.sF; exact rfl) | (apply WO.sU; exact rfl) | (apply WO.lss; exact rfl; exact rfl; all_goals first | (intro _; exfalso; omega) | intro _) | (apply WO.leq; exact rfl; exact rfl; all_goals first | (intro _; exfalso; omega) | intro _) | (apply WO.pkT; exact rfl; exact rfl) | (apply WO.pkF; exact rfl; exact rfl) | (apply WO.add; exact rfl; exact rfl; omega) | (apply WO.iav; exact rfl; exact rfl; omega) | (apply WO.ias; exact rfl; exact rfl; omega) | (apply WO.lda; exact rfl; exact fun _ => rfl; (first | omega | (simp only [List.length_set]; omega) | (simp; omega)); decide; exact rfl; case ia => infer_instance) | (apply WO.lsa; exact rfl; (first | exact rfl | assumption | exact at_new | (apply at_old; assumption) | (apply at_put; first | assumption | (simp only [put_length]; assumption))); exact fun _ => rfl; (first | omega | (simp only [List.length_set]; omega) | (simp; omega)); decide; exact rfl; case ia => infer_instance) | (apply WO.clb; exact rfl; exact rfl; exact rfl; all_goals first | (intro h; exact absurd h (by decide)) | intro _) | (apply WO.cll; exact rfl; exact rfl; exact rfl) | (apply WO.hlv; exact rfl; exact rfl; exact rfl) | (apply WO.hpv; exact rfl; exact rfl; exact rfl) | (apply WO.hnv; exact rfl; exact rfl; exact rfl) | (apply WO.pl; exact rfl; exact rfl) | (apply WO.pp; exact rfl; exact rfl)
    exact hQ _
  | succ r ih =>
    intro i lo hr hi hQ
    have hl : d.toList.length = n := by simp [hd]
    have f1 : ((i : Int)).toNat = i := by omega
    have f2 : ((a : Int)).toNat = a := by omega
    refine W.loop ?_
    unfold b237_0
    repeat' first | apply W.seq | apply SQn | apply W.region | apply WO.nil | apply W.block | apply W.ret | apply W.exit | apply W.skip | apply SQr | apply SQe | apply BQn | apply BQr | apply BQe | (apply BQo; exact rfl) | apply LQe | apply LQr | (apply W.drawro; exact rfl) | apply W.draw | apply WD.nil | (apply WD.gT; exact rfl) | (apply WD.gF; exact rfl) | (apply WD.sT; exact rfl) | (apply WD.sF; exact rfl) | (apply WD.sU; exact rfl) | (apply WD.pure1; exact rfl) | (apply WD.load1; exact rfl; exact rfl; exact rfl) | (apply WD.clb; exact rfl; exact rfl; exact rfl; exact rfl; all_goals first | (intro h; exact absurd h (by decide)) | intro _) | (apply WD.cl0; exact rfl; exact rfl; exact rfl; exact rfl) | (apply WD.cl1; exact rfl; exact rfl; exact rfl; exact rfl) | (apply W.condT; exact rfl) | (apply W.condF; exact rfl) | (apply W.cond; exact rfl; all_goals intro _) | (apply WO.gT; exact rfl) | (apply WO.gF; exact rfl) | (apply WO.sT; exact rfl) | (apply WO.sF; exact rfl) | (apply WO.sU; exact rfl) | (apply WO.lss; exact rfl; exact rfl; all_goals first | (intro _; exfalso; omega) | intro _) | (apply WO.leq; exact rfl; exact rfl; all_goals first | (intro _; exfalso; omega) | intro _) | (apply WO.pkT; exact rfl; exact rfl) | (apply WO.pkF; exact rfl; exact rfl) | (apply WO.add; exact rfl; exact rfl; omega) | (apply WO.ct; exact rfl; exact rfl; first | exact hc _ _ _) | (apply WO.ctn; exact rfl; exact rfl; first | exact hc _ _ _) | (apply WD.ct; exact rfl; exact rfl; exact rfl; first | exact hc _ _ _) | (apply WO.iav; exact rfl; exact rfl; omega) | (apply WO.ias; exact rfl; exact rfl; omega) | (apply WO.lda; exact rfl; exact fun _ => rfl; (first | omega | (simp only [List.length_set]; omega) | (simp; omega)); decide; exact rfl; case ia => infer_instance) | (apply WO.lsa; exact rfl; (first | exact rfl | assumption | exact at_new | (apply at_old; assumption) | (apply at_put; first | assumption | (simp only [put_length]; assumption))); exact fun _ => rfl; (first | omega | (simp only [List.length_set]; omega) | (simp; omega)); decide; exact rfl; case ia => infer_instance) | (apply WO.clb; exact rfl; exact rfl; exact rfl; all_goals first | (intro h; exact absurd h (by decide)) | intro _) | (apply WO.cll; exact rfl; exact rfl; exact rfl) | (apply WO.hlv; exact rfl; exact rfl; exact rfl) | (apply WO.hpv; exact rfl; exact rfl; exact rfl) | (apply WO.hnv; exact rfl; exact rfl; exact rfl) | (apply WO.pl; exact rfl; exact rfl) | (apply WO.pp; exact rfl; exact rfl)
    · rename_i g1 g2
      simp only [f1, f2, at_list] at g2
      have e : Go.Sort.scanUp (fun x => !ltOf c d[a]! x) d j i = i := by
        rw [Go.Sort.scanUp, if_neg (by simp only [lt_t g2]; simp)]
      rw [e] at hQ
      exact hQ _
    · rename_i g1 g2
      simp only [f1, f2, at_list] at g2
      have e : Go.Sort.scanUp (fun x => !ltOf c d[a]! x) d j i = Go.Sort.scanUp (fun x => !ltOf c d[a]! x) d j (i + 1) := by
        rw [Go.Sort.scanUp, if_pos (by rw [decide_eq_true (show i ≤ j by omega)]; simp only [lt_f (Int.not_lt.2 g2), Bool.true_and, Bool.not_false])]
      rw [e] at hQ
      exact LQn (ih (i + 1) _ (by omega) (by omega) hQ)
    · have e : Go.Sort.scanUp (fun x => !ltOf c d[a]! x) d j i = i := by rw [Go.Sort.scanUp, if_neg (by simp; omega)]
      rw [e] at hQ
      exact hQ _

theorem loop237_1 (hb : b < h.length) (hn : n < 2305843009213693952) (hc : CmpM M g c) (d : Array Mk) (hd : d.size = n) (a : Nat) (ha : a < n) (i : Nat) (hi : 1 ≤ i) (a2 a3 a5 : AV) (wr : List Nat) {Q : Ex → StW → Prop} : ∀ (j : Nat) (lo : List (Nat × AV)), j < n →
    (∀ lo, Q (.exit 4) ⟨⟨[.sl b 0 n 3 cap, .int .i64 a, a2, a3, g, a5, .int .i64 i, .int .i64 (Go.Sort.scanDown (fun x => ltOf c d[a]! x) d i j : Nat)], lo, mh h b d.toList, []⟩, wr⟩) →
    W M (.loop b237_1) ⟨⟨[.sl b 0 n 3 cap, .int .i64 a, a2, a3, g, a5, .int .i64 i, .int .i64 j], lo, mh h b d.toList, []⟩, wr⟩ Q := by
  intro j
  induction j with
  | zero =>
    intro lo hj hQ
    have e : Go.Sort.scanDown (fun x => ltOf c d[a]! x) d i 0 = 0 := rfl
    rw [e] at hQ
    refine W.loop ?_
    unfold b237_1
    repeat' first | apply W.seq | apply SQn | apply W.region | apply WO.nil | apply W.block | apply W.ret | apply W.exit | apply W.skip | apply SQr | apply SQe | apply BQn | apply BQr | apply BQe | (apply BQo; exact rfl) | apply LQe | apply LQr | (apply W.drawro; exact rfl) | apply W.draw | apply WD.nil | (apply WD.gT; exact rfl) | (apply WD.gF; exact rfl) | (apply WD.sT; exact rfl) | (apply WD.sF; exact rfl) | (apply WD.sU; exact rfl) | (apply WD.pure1; exact rfl) | (apply WD.load1; exact rfl; exact rfl; exact rfl) | (apply WD.clb; exact rfl; exact rfl; exact rfl; exact rfl; all_goals first | (intro h; exact absurd h (by decide)) | intro _) | (apply WD.cl0; exact rfl; exact rfl; exact rfl; exact rfl) | (apply WD.cl1; exact rfl; exact rfl; exact rfl; exact rfl) | (apply W.condT; exact rfl) | (apply W.condF; exact rfl) | (apply W.cond; exact rfl; all_goals intro _) | (apply WO.gT; exact rfl) | (apply WO.gF; exact rfl) | (apply WO.sT; exact rfl) | (apply WO.sF; exact rfl) | (apply WO.sU; exact rfl) | (apply WO.lss; exact rfl; exact rfl; all_goals first | (intro _; exfalso; omega) | intro _) | (apply WO.leq; exact rfl; exact rfl; all_goals first | (intro _; exfalso; omega) | intro _) | (apply WO.pkT; exact rfl; exact rfl) | (apply WO.pkF; exact rfl; exact rfl) | (apply WO.sub; exact rfl; exact rfl; omega) | (apply WO.iav; exact rfl; exact rfl; omega) | (apply WO.ias; exact rfl; exact rfl; omega) | (apply WO.lda; exact rfl; exact fun _ => rfl; (first | omega | (simp only [List.length_set]; omega) | (simp; omega)); decide; exact rfl; case ia => infer_instance) | (apply WO.lsa; exact rfl; (first | exact rfl | assumption | exact at_new | (apply at_old; assumption) | (apply at_put; first | assumption | (simp only [put_length]; assumption))); exact fun _ => rfl; (first | omega | (simp only [List.length_set]; omega) | (simp; omega)); decide; exact rfl; case ia => infer_instance) | (apply WO.clb; exact rfl; exact rfl; exact rfl; all_goals first | (intro h; exact absurd h (by decide)) | intro _) | (apply WO.cll; exact rfl; exact rfl; exact rfl) | (apply WO.hlv; exact rfl; exact rfl; exact rfl) | (apply WO.hpv; exact rfl; exact rfl; exact rfl) | (apply WO.hnv; exact rfl; exact rfl; exact rfl) | (apply WO.pl; exact rfl; exact rfl) | (apply WO.pp; exact rfl; exact rfl)
    exact hQ _
  | succ j ih =>
    intro lo hj hQ
    have hl : d.toList.length = n := by simp [hd]
    have f1 : ((j + 1 : Nat) : Int).toNat = j + 1 := by omega
    have f2 : ((a : Int)).toNat = a := by omega
    refine W.loop ?_
    unfold b237_1
    repeat' first | apply W.seq | apply SQn | apply W.region | apply WO.nil | apply W.block | apply W.ret | apply W.exit | apply W.skip | apply SQr | apply SQe | apply BQn | apply BQr | apply BQe | (apply BQo; exact rfl) | apply LQe | apply LQr | (apply W.drawro; exact rfl) | apply W.draw | apply WD.nil | (apply WD.gT; exact rfl) | (apply WD.gF; exact rfl) | (apply WD.sT; exact rfl) | (apply WD.sF; exact rfl) | (apply WD.sU; exact rfl) | (apply WD.pure1; exact rfl) | (apply WD.load1; exact rfl; exact rfl; exact rfl) | (apply WD.clb; exact rfl; exact rfl; exact rfl; exact rfl; all_goals first | (intro h; exact absurd h (by decide)) | intro _) | (apply WD.cl0; exact rfl; exact rfl; exact rfl; exact rfl) | (apply WD.cl1; exact rfl; exact rfl; exact rfl; exact rfl) | (apply W.condT; exact rfl) | (apply W.condF; exact rfl) | (apply W.cond; exact rfl; all_goals intro _) | (apply WO.gT; exact rfl) | (apply WO.gF; exact rfl) | (apply WO.sT; exact rfl) | (apply WO.sF; exact rfl) | (apply WO.sU; exact rfl) | (apply WO.lss; exact rfl; exact rfl; all_goals first | (intro _; exfalso; omega) | intro _) | (apply WO.leq; exact rfl; exact rfl; all_goals first | (intro _; exfalso; omega) | intro _) | (apply WO.pkT; exact rfl; exact rfl) | (apply WO.pkF; exact rfl; exact rfl) | (apply WO.sub; exact rfl; exact rfl; omega) | (apply WO.ct; exact rfl; exact rfl; first | exact hc _ _ _) | (apply WO.ctn; exact rfl; exact rfl; first | exact hc _ _ _) | (apply WD.ct; exact rfl; exact rfl; exact rfl; first | exact hc _ _ _) | (apply WO.iav; exact rfl; exact rfl; omega) | (apply WO.ias; exact rfl; exact rfl; omega) | (apply WO.lda; exact rfl; exact fun _ => rfl; (first | omega | (simp only [List.length_set]; omega) | (simp; omega)); decide; exact rfl; case ia => infer_instance) | (apply WO.lsa; exact rfl; (first | exact rfl | assumption | exact at_new | (apply at_old; assumption) | (apply at_put; first | assumption | (simp only [put_length]; assumption))); exact fun _ => rfl; (first | omega | (simp only [List.length_set]; omega) | (simp; omega)); decide; exact rfl; case ia => infer_instance) | (apply WO.clb; exact rfl; exact rfl; exact rfl; all_goals first | (intro h; exact absurd h (by decide)) | intro _) | (apply WO.cll; exact rfl; exact rfl; exact rfl) | (apply WO.hlv; exact rfl; exact rfl; exact rfl) | (apply WO.hpv; exact rfl; exact rfl; exact rfl) | (apply WO.hnv; exact rfl; exact rfl; exact rfl) | (apply WO.pl; exact rfl; exact rfl) | (apply WO.pp; exact rfl; exact rfl)
    · rename_i g1 g2
      simp only [f1, f2, at_list] at g2
      have e : Go.Sort.scanDown (fun x => ltOf c d[a]! x) d i (j + 1) = Go.Sort.scanDown (fun x => ltOf c d[a]! x) d i j := by
        rw [Go.Sort.scanDown, if_pos (by rw [decide_eq_true (show i ≤ j + 1 by omega)]; simp only [lt_t g2, Bool.true_and])]
      rw [e] at hQ
      refine LQn ?_
      rw [show (((j + 1 : Nat) : Int) - 1) = (j : Int) by omega]
      exact ih _ (by omega) hQ
    · rename_i g1 g2
      simp only [f1, f2, at_list] at g2
      have e : Go.Sort.scanDown (fun x => ltOf c d[a]! x) d i (j + 1) = j + 1 := by
        rw [Go.Sort.scanDown, if_neg (by simp only [lt_f (Int.not_lt.2 g2)]; simp)]
      rw [e] at hQ
      exact hQ _
    · have e : Go.Sort.scanDown (fun x => ltOf c d[a]! x) d i (j + 1) = j + 1 := by rw [Go.Sort.scanDown, if_neg (by simp; omega)]
      rw [e] at hQ
      exact hQ _
end Go.Ab.Ch1

