/-
  Own work: a line of a packed image is read: the whole function.
-/
import Derived.Test.YtmngppcmhfhgaaaGreatDoorLib4
import Derived.Test.YtmngppcmhfhgaaaGreatDoorLib3
import Derived.Test.YtmngppcmhfhgaaaGreatDoorCh5Base
import Derived.Test.YtmngppcmhfhgaaaGreatDoorLib2
namespace Go.Ab.Ch5
variable {M : Mach} {cap : Option Nat}

theorem dvF_lt : ∀ (s : Str) (n : Nat), s.all isD = true → dvF n s < (n + 1) * 10 ^ s.length
  | [], n, _ => by simp [dvF]
  | b :: s, n, h => by
    rw [List.all_cons, Bool.and_eq_true] at h
    have hb := (isD_iff b).1 h.1
    have := dvF_lt s (10 * n + (b.toNat - 48)) h.2
    rw [dvF_cons, List.length_cons, Nat.pow_succ]
    have h2 : (10 * n + (b.toNat - 48) + 1) * 10 ^ s.length ≤ (10 * (n + 1)) * 10 ^ s.length := Nat.mul_le_mul_right _ (by omega)
    have h3 : (n + 1) * (10 ^ s.length * 10) = (10 * (n + 1)) * 10 ^ s.length := by
      rw [Nat.mul_comm (10 ^ s.length) 10, ← Nat.mul_assoc, Nat.mul_comm (n + 1) 10]
    omega
theorem lnN_lt (x : Str) : lnN x < 1000000000 := by
  unfold lnN
  split
  · rename_i h
    simp only [intOk, Bool.and_eq_true, decide_eq_true_eq] at h
    have := dvF_lt (lnC x) 0 h.1.2
    have h2 : 10 ^ (lnC x).length ≤ 10 ^ 9 := Nat.pow_le_pow_right (by decide) h.1.1.2
    omega
  · decide
theorem intV_eq (x : Str) : intV (lnC x) = .tup [.int .i64 (lnN x), .bool (intOk (lnC x))] := by
  unfold intV lnN
  split <;> rfl
theorem cutV_eq (x : Str) : cutV 32 x = .tup [.str (lnC x), .str (lnX x), .bool (spl1 32 x).2.isSome] := rfl
theorem lnC_len (x : Str) : (lnC x).length ≤ x.length := by
  unfold lnC
  cases h : (spl1 32 x).2 with
  | none => rw [(spl1_none h).1]; exact Nat.le_refl _
  | some y => have := spl_len h; omega
theorem lnX_len (x : Str) : (lnX x).length ≤ x.length := by
  unfold lnX
  cases h : (spl1 32 x).2 with
  | none => simp
  | some y => have := spl_len h; simp only [Option.getD_some]; omega
theorem lnX_none {x : Str} (h : (spl1 32 x).2.isSome = false) : lnX x = [] := by
  unfold lnX
  cases h2 : (spl1 32 x).2 with
  | none => rfl
  | some y => rw [h2] at h; cases h
theorem w93 (C : C93 M) (N b : Nat) (hp : Heap) (cols : List Str) (line : Str) (o : AV) (hN : b < N ∧ N ≤ hp.length) (hB : ColB N hp b cols o) (hl : line.length < 1000000) (hk : cols.length ≤ 4096) :
    WRun M 93 [.ptr b 0, .str line] hp (rdK N b hp cols line (lineE cols line)) := by
  have q160 := fun h => C.c160 line h hl
  have h1 := lnC_len line
  have h2 := lnX_len line
  have q161 := fun h => C.c161 (lnC line) h (by omega)
  have q162 := fun h => C.c162 (lnX line) h
  have hx : (lnX line).length < 1000000 := by omega
  have hn := lnN_lt line
  rw [cutV_eq] at q160
  rw [intV_eq] at q161
  have hcell := hB.cell
  have hsp : (spl1 32 line).2.isSome = false → lnX line = [] := lnX_none
  have hpl : lnOk line = (intOk (lnC line) && decide (lnX line ≠ []) && !hasB 32 (lnX line)) := rfl
  have hE1 : ∀ pl, lnOk line = pl → errOf pl (lnN line) cols.length (rowsOf cols (lnX line)) (lnX line) = lineE cols line := fun pl h => by rw [← h]; rfl
  have hfin1 : ∀ pl, lnOk line = pl → errOf pl (lnN line) cols.length (rowsOf cols (lnX line)) (lnX line) ≠ 0 → rdK N b hp cols line (lineE cols line) ⟨.int .i64 (errOf pl (lnN line) cols.length (rowsOf cols (lnX line)) (lnX line)), hp, []⟩ := fun pl h h0 => by
    rw [hE1 pl h] at h0 ⊢
    exact ⟨rfl, fun _ => ⟨rfl, rfl⟩, fun h => absurd h h0⟩
  have hfin2 : ∀ pl, lnOk line = pl → errOf pl (lnN line) cols.length (rowsOf cols (lnX line)) (lnX line) = 0 → ∀ (r : HR) o', r.v = .int .i64 0 → ColB N r.h b (cols ++ List.replicate (lnN line) (lnX line)) o' → Kept N b hp r.h r.wr → rdK N b hp cols line (lineE cols line) r := fun pl h h0 r o' g1 g2 g3 => by
    rw [hE1 pl h] at h0
    exact ⟨by rw [h0]; exact g1, fun h => absurd h0 h, fun _ => ⟨⟨o', g2⟩, g3⟩⟩
  refine WRun.of_W (by rw [C.ft]; exact ft93) (by simp) ?_
  rcases hB.out with ⟨g1, g2⟩ | ⟨c, g1, g2, g3⟩
  · subst g2
    have hr : rowsOf cols (lnX line) = (lnX line).length := if_pos g1
    rw [hr] at hfin1 hfin2
    unfold b93
    simp only [List.map_cons, List.map_nil, List.getElem?_cons_zero, List.getElem?_cons_succ, List.getElem?_nil, Option.getD_some, Option.getD_none]
    cases hs : (spl1 32 line).2.isSome with
    | false =>
      rw [hs] at q160
      have hp : lnOk line = false := by rw [hpl, hsp hs]; simp
      repeat' first | (apply WO.ldb; exact rfl; exact hcell; exact rfl) | (refine t93_W C N b _ cols (lnX line) line _ hN hB hx hk false (lnN line) (lnX line).length hn _ _ _ _ _ _ (hfin1 _ hp) (hfin2 _ hp)) | apply W.seq | apply SQn | apply W.region | apply WO.nil | apply W.skip | (apply W.condF; exact rfl) | (apply WO.sT; exact rfl) | (apply WO.gtr; exact rfl; exact rfl; all_goals first | (intro _; exfalso; omega) | intro _) | (apply WO.pkF; exact rfl; exact rfl) | (apply WO.cll; exact rfl; exact rfl; first | exact q160 _) | (apply WO.cll; exact rfl; exact rfl; first | exact q161 _) | (apply WO.pl; exact rfl; exact rfl) | (apply WO.pp; exact rfl; exact rfl)
    | true =>
      rw [hs] at q160
      cases hi : intOk (lnC line) with
      | false =>
        have hp : lnOk line = false := by rw [hpl, hi]; simp
        rw [hi] at q161
        repeat' first | (apply WO.ldb; exact rfl; exact hcell; exact rfl) | (refine t93_W C N b _ cols (lnX line) line _ hN hB hx hk false (lnN line) (lnX line).length hn _ _ _ _ _ _ (hfin1 _ hp) (hfin2 _ hp)) | apply W.seq | apply SQn | apply W.region | apply WO.nil | apply W.skip | (apply W.condF; exact rfl) | (apply WO.gT; exact rfl) | (apply WO.sT; exact rfl) | (apply WO.gtr; exact rfl; exact rfl; all_goals first | (intro _; exfalso; omega) | intro _) | (apply WO.pkT; exact rfl; exact rfl) | (apply WO.pkF; exact rfl; exact rfl) | (apply WO.cll; exact rfl; exact rfl; first | exact q160 _) | (apply WO.cll; exact rfl; exact rfl; first | exact q161 _) | (apply WO.pl; exact rfl; exact rfl) | (apply WO.pp; exact rfl; exact rfl)
      | true =>
        rw [hi] at q161
        by_cases hX : lnX line = []
        · have hp : lnOk line = false := by rw [hpl, hX]; simp
          repeat' first | (apply WO.ldb; exact rfl; exact hcell; exact rfl) | (apply WO.sneq; exact rfl; exact rfl; all_goals first | (intro h; exact absurd hX h) | (intro h; exact absurd h hX) | intro _) | (refine t93_W C N b _ cols (lnX line) line _ hN hB hx hk false (lnN line) (lnX line).length hn _ _ _ _ _ _ (hfin1 _ hp) (hfin2 _ hp)) | apply W.seq | apply SQn | apply W.region | apply WO.nil | apply W.skip | (apply W.condF; exact rfl) | (apply WO.gT; exact rfl) | (apply WO.sT; exact rfl) | (apply WO.gtr; exact rfl; exact rfl; all_goals first | (intro _; exfalso; omega) | intro _) | (apply WO.pkT; exact rfl; exact rfl) | (apply WO.pkF; exact rfl; exact rfl) | (apply WO.cll; exact rfl; exact rfl; first | exact q160 _) | (apply WO.cll; exact rfl; exact rfl; first | exact q161 _) | (apply WO.pl; exact rfl; exact rfl) | (apply WO.pp; exact rfl; exact rfl)
        · cases hb : hasB 32 (lnX line) with
          | false =>
            have hp : lnOk line = true := by rw [hpl, hi, hb]; simp [hX]
            rw [hb] at q162
            repeat' first | (apply WO.ldb; exact rfl; exact hcell; exact rfl) | (apply WO.sneq; exact rfl; exact rfl; all_goals first | (intro h; exact absurd hX h) | (intro h; exact absurd h hX) | intro _) | (refine t93_W C N b _ cols (lnX line) line _ hN hB hx hk true (lnN line) (lnX line).length hn _ _ _ _ _ _ (hfin1 _ hp) (hfin2 _ hp)) | apply W.seq | apply SQn | apply W.region | apply WO.nil | apply W.skip | (apply W.condF; exact rfl) | (apply WO.gT; exact rfl) | (apply WO.gtr; exact rfl; exact rfl; all_goals first | (intro _; exfalso; omega) | intro _) | (apply WO.pkT; exact rfl; exact rfl) | (apply WO.cll; exact rfl; exact rfl; first | exact q160 _) | (apply WO.cll; exact rfl; exact rfl; first | exact q161 _) | (apply WO.cll; exact rfl; exact rfl; first | exact q162 _) | (apply WO.pl; exact rfl; exact rfl) | (apply WO.pp; exact rfl; exact rfl)
          | true =>
            have hp : lnOk line = false := by rw [hpl, hb]; simp
            rw [hb] at q162
            repeat' first | (apply WO.ldb; exact rfl; exact hcell; exact rfl) | (apply WO.sneq; exact rfl; exact rfl; all_goals first | (intro h; exact absurd hX h) | (intro h; exact absurd h hX) | intro _) | (refine t93_W C N b _ cols (lnX line) line _ hN hB hx hk false (lnN line) (lnX line).length hn _ _ _ _ _ _ (hfin1 _ hp) (hfin2 _ hp)) | apply W.seq | apply SQn | apply W.region | apply WO.nil | apply W.skip | (apply W.condF; exact rfl) | (apply WO.gT; exact rfl) | (apply WO.gtr; exact rfl; exact rfl; all_goals first | (intro _; exfalso; omega) | intro _) | (apply WO.pkT; exact rfl; exact rfl) | (apply WO.cll; exact rfl; exact rfl; first | exact q160 _) | (apply WO.cll; exact rfl; exact rfl; first | exact q161 _) | (apply WO.cll; exact rfl; exact rfl; first | exact q162 _) | (apply WO.pl; exact rfl; exact rfl) | (apply WO.pp; exact rfl; exact rfl)
  · subst g2
    have hpos : 0 < cols.length := List.length_pos_iff.2 g1
    have hr : rowsOf cols (lnX line) = (cols[0]!).length := if_neg g1
    rw [hr] at hfin1 hfin2
    unfold b93
    simp only [List.map_cons, List.map_nil, List.getElem?_cons_zero, List.getElem?_cons_succ, List.getElem?_nil, Option.getD_some, Option.getD_none]
    cases hs : (spl1 32 line).2.isSome with
    | false =>
      rw [hs] at q160
      have hp : lnOk line = false := by rw [hpl, hsp hs]; simp
      repeat' first | (apply WO.ldb; exact rfl; exact hcell; exact rfl) | (refine t93_W C N b _ cols (lnX line) line _ hN hB hx hk false (lnN line) (cols[0]!).length hn _ _ _ _ _ _ (hfin1 _ hp) (hfin2 _ hp)) | apply W.seq | apply SQn | apply W.region | apply WO.nil | (apply W.condT; exact rfl) | (apply WO.sT; exact rfl) | (apply WO.gtr; exact rfl; exact rfl; all_goals first | (intro _; exfalso; omega) | intro _) | (apply WO.pkF; exact rfl; exact rfl) | (apply WO.cll; exact rfl; exact rfl; first | exact q160 _) | (apply WO.cll; exact rfl; exact rfl; first | exact q161 _) | (apply WO.ias; exact rfl; exact rfl; omega) | (apply WO.lsa; exact rfl; (first | exact rfl | assumption | exact at_new | (apply at_old; assumption) | (apply at_put; first | assumption | (simp only [put_length]; assumption))); exact fun _ => rfl; (first | omega | (simp only [List.length_set]; omega) | (simp; omega)); decide; exact rfl; case ia => infer_instance) | (apply WO.pl; exact rfl; exact rfl) | (apply WO.pp; exact rfl; exact rfl)
    | true =>
      rw [hs] at q160
      cases hi : intOk (lnC line) with
      | false =>
        have hp : lnOk line = false := by rw [hpl, hi]; simp
        rw [hi] at q161
        repeat' first | (apply WO.ldb; exact rfl; exact hcell; exact rfl) | (refine t93_W C N b _ cols (lnX line) line _ hN hB hx hk false (lnN line) (cols[0]!).length hn _ _ _ _ _ _ (hfin1 _ hp) (hfin2 _ hp)) | apply W.seq | apply SQn | apply W.region | apply WO.nil | (apply W.condT; exact rfl) | (apply WO.gT; exact rfl) | (apply WO.sT; exact rfl) | (apply WO.gtr; exact rfl; exact rfl; all_goals first | (intro _; exfalso; omega) | intro _) | (apply WO.pkT; exact rfl; exact rfl) | (apply WO.pkF; exact rfl; exact rfl) | (apply WO.cll; exact rfl; exact rfl; first | exact q160 _) | (apply WO.cll; exact rfl; exact rfl; first | exact q161 _) | (apply WO.ias; exact rfl; exact rfl; omega) | (apply WO.lsa; exact rfl; (first | exact rfl | assumption | exact at_new | (apply at_old; assumption) | (apply at_put; first | assumption | (simp only [put_length]; assumption))); exact fun _ => rfl; (first | omega | (simp only [List.length_set]; omega) | (simp; omega)); decide; exact rfl; case ia => infer_instance) | (apply WO.pl; exact rfl; exact rfl) | (apply WO.pp; exact rfl; exact rfl)
      | true =>
        rw [hi] at q161
        by_cases hX : lnX line = []
        · have hp : lnOk line = false := by rw [hpl, hX]; simp
          repeat' first | (apply WO.ldb; exact rfl; exact hcell; exact rfl) | (apply WO.sneq; exact rfl; exact rfl; all_goals first | (intro h; exact absurd hX h) | (intro h; exact absurd h hX) | intro _) | (refine t93_W C N b _ cols (lnX line) line _ hN hB hx hk false (lnN line) (cols[0]!).length hn _ _ _ _ _ _ (hfin1 _ hp) (hfin2 _ hp)) | apply W.seq | apply SQn | apply W.region | apply WO.nil | (apply W.condT; exact rfl) | (apply WO.gT; exact rfl) | (apply WO.sT; exact rfl) | (apply WO.gtr; exact rfl; exact rfl; all_goals first | (intro _; exfalso; omega) | intro _) | (apply WO.pkT; exact rfl; exact rfl) | (apply WO.pkF; exact rfl; exact rfl) | (apply WO.cll; exact rfl; exact rfl; first | exact q160 _) | (apply WO.cll; exact rfl; exact rfl; first | exact q161 _) | (apply WO.ias; exact rfl; exact rfl; omega) | (apply WO.lsa; exact rfl; (first | exact rfl | assumption | exact at_new | (apply at_old; assumption) | (apply at_put; first | assumption | (simp only [put_length]; assumption))); exact fun _ => rfl; (first | omega | (simp only [List.length_set]; omega) | (simp; omega)); decide; exact rfl; case ia => infer_instance) | (apply WO.pl; exact rfl; exact rfl) | (apply WO.pp; exact rfl; exact rfl)
        · cases hb : hasB 32 (lnX line) with
          | false =>
            have hp : lnOk line = true := by rw [hpl, hi, hb]; simp [hX]
            rw [hb] at q162
            repeat' first | (apply WO.ldb; exact rfl; exact hcell; exact rfl) | (apply WO.sneq; exact rfl; exact rfl; all_goals first | (intro h; exact absurd hX h) | (intro h; exact absurd h hX) | intro _) | (refine t93_W C N b _ cols (lnX line) line _ hN hB hx hk true (lnN line) (cols[0]!).length hn _ _ _ _ _ _ (hfin1 _ hp) (hfin2 _ hp)) | apply W.seq | apply SQn | apply W.region | apply WO.nil | (apply W.condT; exact rfl) | (apply WO.gT; exact rfl) | (apply WO.gtr; exact rfl; exact rfl; all_goals first | (intro _; exfalso; omega) | intro _) | (apply WO.pkT; exact rfl; exact rfl) | (apply WO.cll; exact rfl; exact rfl; first | exact q160 _) | (apply WO.cll; exact rfl; exact rfl; first | exact q161 _) | (apply WO.cll; exact rfl; exact rfl; first | exact q162 _) | (apply WO.ias; exact rfl; exact rfl; omega) | (apply WO.lsa; exact rfl; (first | exact rfl | assumption | exact at_new | (apply at_old; assumption) | (apply at_put; first | assumption | (simp only [put_length]; assumption))); exact fun _ => rfl; (first | omega | (simp only [List.length_set]; omega) | (simp; omega)); decide; exact rfl; case ia => infer_instance) | (apply WO.pl; exact rfl; exact rfl) | (apply WO.pp; exact rfl; exact rfl)
          | true =>
            have hp : lnOk line = false := by rw [hpl, hb]; simp
            rw [hb] at q162
            repeat' first | (apply WO.ldb; exact rfl; exact hcell; exact rfl) | (apply WO.sneq; exact rfl; exact rfl; all_goals first | (intro h; exact absurd hX h) | (intro h; exact absurd h hX) | intro _) | (refine t93_W C N b _ cols (lnX line) line _ hN hB hx hk false (lnN line) (cols[0]!).length hn _ _ _ _ _ _ (hfin1 _ hp) (hfin2 _ hp)) | apply W.seq | apply SQn | apply W.region | apply WO.nil | (apply W.condT; exact rfl) | (apply WO.gT; exact rfl) | (apply WO.gtr; exact rfl; exact rfl; all_goals first | (intro _; exfalso; omega) | intro _) | (apply WO.pkT; exact rfl; exact rfl) | (apply WO.cll; exact rfl; exact rfl; first | exact q160 _) | (apply WO.cll; exact rfl; exact rfl; first | exact q161 _) | (apply WO.cll; exact rfl; exact rfl; first | exact q162 _) | (apply WO.ias; exact rfl; exact rfl; omega) | (apply WO.lsa; exact rfl; (first | exact rfl | assumption | exact at_new | (apply at_old; assumption) | (apply at_put; first | assumption | (simp only [put_length]; assumption))); exact fun _ => rfl; (first | omega | (simp only [List.length_set]; omega) | (simp; omega)); decide; exact rfl; case ia => infer_instance) | (apply WO.pl; exact rfl; exact rfl) | (apply WO.pp; exact rfl; exact rfl)
end Go.Ab.Ch5


/-
  Own work: Unpack.
-/
namespace Go.Ab.Ch5
variable {M : Mach} {cap : Option Nat}

def t21_1 : ICode :=
   (.seq (.region [⟨(.l 49), .mv (.p 5), none⟩,
         ⟨(.l 50), .nilck (.l 49), none⟩,
         ⟨(.l 51), .faddr 0 (.l 50), none⟩,
         ⟨(.l 52), .load 1 false (.l 51), none⟩,
         ⟨(.l 53), .iaddr none 1 (.l 52) (.c (.int .i64 (0))), none⟩,
         ⟨(.l 54), .load 1 false (.l 53), none⟩,
         ⟨(.l 55), .len .str (.l 54), none⟩,
         ⟨(.p 10), .mv (.l 55), none⟩])
       (.seq (.seq (.region [⟨(.l 56), .mv (.p 10), none⟩,
           ⟨(.l 57), .bin .gtr (.l 56) (.c (.int .i64 (64))), none⟩])
         (.cond (.l 57)
          (.seq (.region [⟨(.l 58), .build [.int .i64 (0), .nilsl] [], none⟩,
             ⟨.no, .store 2 (.p 1) (.l 58), none⟩,
             ⟨(.p 2), .mv (.c (.int .i64 (0))), none⟩,
             ⟨(.p 3), .mv (.c (.int .i64 (3))), none⟩])
           (.ret))
          (.skip)))
        (.seq (.region [⟨(.l 59), .mv (.p 10), none⟩,
           ⟨(.l 60), .mv (.p 5), none⟩,
           ⟨(.l 61), .nilck (.l 60), none⟩,
           ⟨(.l 62), .faddr 0 (.l 61), none⟩,
           ⟨(.l 63), .load 1 false (.l 62), none⟩,
           ⟨(.l 64), .build [.int .i64 (0), .nilsl] [(0, 1, (.l 59)), (1, 1, (.l 63))], none⟩,
           ⟨.no, .store 2 (.p 1) (.l 64), none⟩,
           ⟨(.p 2), .mv (.c (.int .i64 (0))), none⟩,
           ⟨(.p 3), .mv (.c (.int .i64 (0))), none⟩])
         (.ret))))
def t21 : ICode :=
   (.seq (.region [⟨(.l 26), .build [.nilsl] [], none⟩,
      ⟨(.l 27), .box 164 1 (.l 26), none⟩,
      ⟨(.p 5), .mv (.l 27), none⟩])
    (.seq (.region [⟨(.l 28), .mv (.p 5), none⟩,
       ⟨(.l 29), .mkfn (.func 93) [(.l 28)] [], none⟩,
       ⟨(.p 6), .mv (.l 29), none⟩])
     (.seq (.seq (.region [⟨(.l 30), .mv (.p 0), none⟩,
         ⟨(.l 31), .call (.c (.fn (.func 95) [] [])) [(.l 30), (.c (.str [10]))], none⟩,
         ⟨(.p 11), .call (.c (.fn (.func 94) [] [])) [(.l 31), (.c (.str [10]))], none⟩,
         ⟨(.p 12), .len .sl (.p 11), none⟩,
         ⟨(.p 13), .mv (.c (.int .i64 (0))), none⟩])
       (.block 0
        (.loop b21_0)))
      (.seq (.region [⟨(.l 49), .mv (.p 5), none⟩,
         ⟨(.l 50), .nilck (.l 49), none⟩,
         ⟨(.l 51), .faddr 0 (.l 50), none⟩,
         ⟨(.l 52), .load 1 false (.l 51), none⟩,
         ⟨(.l 53), .iaddr none 1 (.l 52) (.c (.int .i64 (0))), none⟩,
         ⟨(.l 54), .load 1 false (.l 53), none⟩,
         ⟨(.l 55), .len .str (.l 54), none⟩,
         ⟨(.p 10), .mv (.l 55), none⟩])
       (.seq (.seq (.region [⟨(.l 56), .mv (.p 10), none⟩,
           ⟨(.l 57), .bin .gtr (.l 56) (.c (.int .i64 (64))), none⟩])
         (.cond (.l 57)
          (.seq (.region [⟨(.l 58), .build [.int .i64 (0), .nilsl] [], none⟩,
             ⟨.no, .store 2 (.p 1) (.l 58), none⟩,
             ⟨(.p 2), .mv (.c (.int .i64 (0))), none⟩,
             ⟨(.p 3), .mv (.c (.int .i64 (3))), none⟩])
           (.ret))
          (.skip)))
        (.seq (.region [⟨(.l 59), .mv (.p 10), none⟩,
           ⟨(.l 60), .mv (.p 5), none⟩,
           ⟨(.l 61), .nilck (.l 60), none⟩,
           ⟨(.l 62), .faddr 0 (.l 61), none⟩,
           ⟨(.l 63), .load 1 false (.l 62), none⟩,
           ⟨(.l 64), .build [.int .i64 (0), .nilsl] [(0, 1, (.l 59)), (1, 1, (.l 63))], none⟩,
           ⟨.no, .store 2 (.p 1) (.l 64), none⟩,
           ⟨(.p 2), .mv (.c (.int .i64 (0))), none⟩,
           ⟨(.p 3), .mv (.c (.int .i64 (0))), none⟩])
         (.ret)))))))
def unpL (cols : List Str) (i : Nat) : List Str → Int × Int × List Str
  | [] => (0, 0, cols)
  | x :: l => if lineE cols x ≠ 0 then ((i : Int) + 1, lineE cols x, []) else unpL (cols ++ List.replicate (lnN x) (lnX x)) (i + 1) l
theorem unpL_drop {cols : List Str} {L : List Str} {i : Nat} (h : i < L.length) : unpL cols i (L.drop i) = if lineE cols L[i]! ≠ 0 then ((i : Int) + 1, lineE cols L[i]!, []) else unpL (cols ++ List.replicate (lnN L[i]!) (lnX L[i]!)) (i + 1) (L.drop (i + 1)) := by
  rw [List.drop_eq_getElem_cons h, getElem!_pos L i h, unpL]
structure C21 (M : Mach) : Prop where
  t : C93 M
  n93 : ∀ ars h, M.ext 93 ars h = none
  c92 : ∀ (s : Str) h, s.length < 1000000 → M.ext 92 [.str s, .str [10]] h = some ⟨.bool (endB 10 s), h, []⟩
  c95 : ∀ (s : Str) h, s.length < 1000000 → M.ext 95 [.str s, .str [10]] h = some ⟨.str (if endB 10 s then s.dropLast else s), h, []⟩
  c94 : ∀ (s : Str) (h : Heap), s.length < 500000 → M.ext 94 [.str s, .str [10]] h = some ⟨.sl h.length 0 (splitL 10 s).length 1 (some (splitL 10 s).length), h ++ [some (.cells (strs (splitL 10 s)) 9)], []⟩
theorem lineE_small {cols : List Str} {x : Str} (h : lineE cols x = 0) : 1 ≤ lnN x ∧ cols.length + lnN x ≤ 4096 := by
  unfold lineE errOf at h
  split at h
  · exact absurd h (by decide)
  · split at h
    · exact absurd h (by decide)
    · split at h
      · exact absurd h (by decide)
      · omega
theorem loop21 (C : C21 M) (s : Str) (L : List Str) (hL : ∀ x ∈ L, x.length < 1000000) (hl : L.length < 1000000) {Q : Ex → StW → Prop} : ∀ (r i : Nat) (cols : List Str) (o : AV) (hp : Heap) (a2 a3 a4 a7 a8 a9 a10 : AV) (lo : List (Nat × AV)) (wr : List Nat), i + r = L.length → 4 ≤ hp.length → ColB 4 hp 2 cols o → hp.at 0 = some (.cells [.int .i64 0, .nilsl] 24) → hp.at 3 = some (.cells (strs L) 9) → cols.length ≤ 4096 →
    ((unpL cols i (L.drop i)).2.1 ≠ 0 → ∀ st : StW, st.s.dfs = [] → st.s.hp.at 0 = some (.cells [.int .i64 0, .nilsl] 24) → st.s.pe[1]? = some (.ptr 0 0) → st.s.pe[2]? = some (.int .i64 (unpL cols i (L.drop i)).1) → st.s.pe[3]? = some (.int .i64 (unpL cols i (L.drop i)).2.1) → Q .ret st) →
    ((unpL cols i (L.drop i)).2.1 = 0 → ∀ hp' o' a2 a3 a4 a7 a8 a9 a10 lo wr, ColB 4 hp' 2 (unpL cols i (L.drop i)).2.2 o' → 4 ≤ hp'.length → hp'.at 0 = some (.cells [.int .i64 0, .nilsl] 24) → Q (.exit 0) ⟨⟨[.str s, .ptr 0 0, a2, a3, a4, .ptr 2 0, .fn (.func 93) [.ptr 2 0] [], a7, a8, a9, a10, .sl 3 0 L.length 1 (some L.length), .int .i64 L.length, .int .i64 L.length], lo, hp', []⟩, wr⟩) →
    W M (.loop b21_0) ⟨⟨[.str s, .ptr 0 0, a2, a3, a4, .ptr 2 0, .fn (.func 93) [.ptr 2 0] [], a7, a8, a9, a10, .sl 3 0 L.length 1 (some L.length), .int .i64 L.length, .int .i64 i], lo, hp, []⟩, wr⟩ Q := by
  intro r
  induction r with
  | zero =>
    intro i cols o hp a2 a3 a4 a7 a8 a9 a10 lo wr hi h4 hB h0 h3 hk hE hO
    obtain rfl : i = L.length := by omega
    rw [List.drop_length] at hO
    refine W.loop ?_
    unfold b21_0
    repeat' first | apply W.seq | apply SQn | apply W.region | apply WO.nil | apply W.exit | apply SQe | apply LQe | (apply W.condF; exact rfl) | (apply WO.lss; exact rfl; exact rfl; all_goals first | (intro _; exfalso; omega) | intro _)
    exact hO rfl _ _ _ _ _ _ _ _ _ _ _ hB h4 h0
  | succ r ih =>
    intro i cols o hp a2 a3 a4 a7 a8 a9 a10 lo wr hi h4 hB h0 h3 hk hE hO
    have hil : i < L.length := by omega
    have ei : ((i : Int)).toNat = i := Int.toNat_natCast i
    have hx : (L[((i : Int)).toNat]!).length < 1000000 := by rw [ei, getElem!_pos L i hil]; exact hL _ (List.getElem_mem hil)
    have hd := unpL_drop (cols := cols) hil
    obtain ⟨q, hq, hv, he, ho⟩ := (w93 C.t 4 2 hp cols L[((i : Int)).toNat]! o ⟨by decide, h4⟩ hB hx hk).out
    obtain ⟨rv, rh, rwr⟩ := q
    obtain rfl : rv = _ := hv
    have q93 := CT.run (fi := [.ptr 2 0]) (ca := []) (ars := [.str L[((i : Int)).toNat]!]) (C.n93 _ _) hq
    rw [ei] at q93 he ho
    generalize hEE : lineE cols L[i]! = E at q93 he ho hd
    refine W.loop ?_
    unfold b21_0
    by_cases hE0 : E = 0
    · subst hE0
      rw [if_neg (by decide)] at hd
      rw [hd] at hE hO
      obtain ⟨⟨o', hB'⟩, hK⟩ := ho rfl
      have hsm := lineE_small hEE
      have k0 : rh.at 0 = some (.cells [.int .i64 0, .nilsl] 24) := (at_get (hK.at' 0 (by decide) (by decide))).trans h0
      have k3 : rh.at 3 = some (.cells (strs L) 9) := (at_get (hK.at' 3 (by decide) (by decide))).trans h3
      repeat' first | (rw [ei]) | apply W.seq | apply SQn | apply W.region | apply WO.nil | apply W.block | apply W.skip | apply BQn | (apply W.condT; exact rfl) | (apply W.condF; exact rfl) | (apply WO.lss; exact rfl; exact rfl; all_goals first | (intro _; exfalso; omega) | intro _) | (apply WO.neq; exact rfl; exact rfl; all_goals first | (intro _; exfalso; omega) | intro _) | (apply WO.add; exact rfl; exact rfl; omega) | (apply WO.ct; exact rfl; exact rfl; first | exact q93) | (apply WO.ias; exact rfl; exact rfl; omega) | (apply WO.lsa; exact rfl; (first | exact rfl | assumption | exact at_new | (apply at_old; assumption) | (apply at_put; first | assumption | (simp only [put_length]; assumption))); exact fun _ => rfl; (first | omega | (simp only [List.length_set]; omega) | (simp; omega)); decide; exact rfl; case ia => infer_instance) | (apply WO.pl; exact rfl; exact rfl) | (apply WO.pp; exact rfl; exact rfl)
      refine LQn ?_
      exact ih (i + 1) _ o' rh _ _ _ _ _ _ _ _ _ (by omega) (Nat.le_trans h4 hK.len) hB' k0 k3 (by rw [List.length_append, List.length_replicate]; exact hsm.2) hE hO
    · rw [if_pos hE0] at hd
      obtain ⟨rfl, rfl⟩ := he hE0
      rw [hd] at hE
      repeat' first | (rw [ei]) | (apply WO.stj (c' := [.int .i64 0, .nilsl]); exact rfl; exact rfl; exact h0; exact ⟨rfl, Nat.le_refl _, rfl⟩; exact rfl) | apply W.seq | apply SQn | apply W.region | apply WO.nil | apply W.block | apply W.ret | apply W.skip | apply SQr | apply BQr | apply LQr | (apply W.condT; exact rfl) | (apply WO.lss; exact rfl; exact rfl; all_goals first | (intro _; exfalso; omega) | intro _) | (apply WO.neq; exact rfl; exact rfl; all_goals first | (intro _; exfalso; omega) | intro _) | (apply WO.add; exact rfl; exact rfl; omega) | (apply WO.ct; exact rfl; exact rfl; first | exact q93) | (apply WO.ias; exact rfl; exact rfl; omega) | (apply WO.lsa; exact rfl; (first | exact rfl | assumption | exact at_new | (apply at_old; assumption) | (apply at_put; first | assumption | (simp only [put_length]; assumption))); exact fun _ => rfl; (first | omega | (simp only [List.length_set]; omega) | (simp; omega)); decide; exact rfl; case ia => infer_instance) | (apply WO.pl; exact rfl; exact rfl) | (apply WO.pp; exact rfl; exact rfl)
      exact hE hE0 _ rfl (at_put (Nat.lt_of_lt_of_le (by decide) h4)) rfl rfl rfl
theorem retA0 {v : AV} {s : StW} : retA v 0 s = ⟨v, if v.top ≤ 0 then [] else s.s.hp, []⟩ := by
  have hf : s.wr.filter (fun b => decide (b < 0)) = [] := by simp
  have ht : tight s.s.hp 0 s.wr = true := by
    simp only [tight, List.all_eq_true]
    intro x hx
    split <;> simp
  unfold retA
  rw [ht, hf, Bool.and_true]
  by_cases h : v.top ≤ 0
  · rw [if_pos (by simpa using h), if_pos h]; simp
  · rw [if_neg (by simpa using h), if_neg h]
theorem unpL_ne : ∀ (l : List Str) (cols : List Str) (i : Nat), (unpL cols i l).2.1 = 0 → cols ≠ [] ∨ l ≠ [] → (unpL cols i l).2.2 ≠ []
  | [], cols, i, h, hn => by
    rcases hn with hn | hn
    · exact hn
    · exact absurd rfl hn
  | x :: l, cols, i, h, hn => by
    rw [unpL] at h ⊢
    by_cases hE : lineE cols x ≠ 0
    · rw [if_pos hE] at h; exact absurd h hE
    · rw [if_neg hE] at h ⊢
      have h0 : lineE cols x = 0 := Decidable.not_not.1 hE
      refine unpL_ne l _ _ h (.inl fun e => ?_)
      have := congrArg List.length e
      simp at this
      have := lineE_small h0
      omega
def unpC (s : Str) : Int × Int × List Str := unpL [] 0 (splitL 10 s.dropLast)
def unpR (s : Str) : Int × List Str × Int × Int :=
  if 4096 < s.length then (0, [], 0, 26) else if endB 10 s = false then (0, [], 0, 28) else if (unpC s).2.1 ≠ 0 then (0, [], (unpC s).1, (unpC s).2.1)
  else if 64 < ((unpC s).2.2[0]!).length then (0, [], 0, 3) else (((unpC s).2.2[0]!).length, (unpC s).2.2, 0, 0)
abbrev unK (s : Str) (r : HR) : Prop := ∃ v, r.v = .tup [.agg [.int .i64 (unpR s).1, v], .int .i64 (unpR s).2.2.1, .int .i64 (unpR s).2.2.2] ∧ OutW r.h v (unpR s).2.1 ∧ r.wr = []
abbrev unP (s : Str) (e : Ex) (st : StW) : Prop := (e = .normal ∨ e = .ret) ∧ ∃ s', takeDfs st.s.dfs st = some s' ∧ ∃ vs, resultsA s'.s [.cell 2 true (.p 1), .var (.p 2), .var (.p 3)] = some vs ∧ unK s (retA (tupA vs) 0 s')
theorem res3 {st : St} {rows line err : Int} {v : AV} (h2 : st.hp.at 0 = some (.cells [.int .i64 rows, v] 24)) (h3 : st.pe[1]? = some (.ptr 0 0)) (h4 : st.pe[2]? = some (.int .i64 line)) (h5 : st.pe[3]? = some (.int .i64 err)) : resultsA st [.cell 2 true (.p 1), .var (.p 2), .var (.p 3)] = some [.agg [.int .i64 rows, v], .int .i64 line, .int .i64 err] := by
  simp only [resultsA, St.opd, h3, Option.bind_some, readAt, h2, h4, h5, List.drop]
  rfl
theorem unP_err {s : Str} {line err : Int} {st : StW} (h : unpR s = (0, [], line, err)) (h1 : st.s.dfs = []) (h2 : st.s.hp.at 0 = some (.cells [.int .i64 0, .nilsl] 24)) (h3 : st.s.pe[1]? = some (.ptr 0 0)) (h4 : st.s.pe[2]? = some (.int .i64 line)) (h5 : st.s.pe[3]? = some (.int .i64 err)) : unP s .ret st := by
  refine ⟨.inr rfl, st, by rw [h1]; rfl, _, res3 h2 h3 h4 h5, ?_⟩
  rw [retA0]
  refine ⟨.nilsl, ?_, .inl ⟨?_, rfl⟩, rfl⟩
  · rw [h]; rfl
  · rw [h]
theorem t21_1_W (s : Str) (hs : ¬ 4096 < s.length) (he : endB 10 s = true) (hc : (unpC s).2.1 = 0) (o : AV) (hp : Heap) (h4 : 4 ≤ hp.length) (hB : ColB 4 hp 2 (unpC s).2.2 o) (h0 : hp.at 0 = some (.cells [.int .i64 0, .nilsl] 24)) (hne : (unpC s).2.2 ≠ []) (hlen : (unpC s).2.2.length < 1000000) (a0 a2 a3 a4 a6 a7 a8 a9 a10 a11 a12 a13 : AV) (lo : List (Nat × AV)) (wr : List Nat) :
    W M t21_1 ⟨⟨[a0, .ptr 0 0, a2, a3, a4, .ptr 2 0, a6, a7, a8, a9, a10, a11, a12, a13], lo, hp, []⟩, wr⟩ (unP s) := by
  have hR : unpR s = if 64 < ((unpC s).2.2[0]!).length then ((0 : Int), [], (0 : Int), (3 : Int)) else ((((unpC s).2.2[0]!).length : Int), (unpC s).2.2, (0 : Int), (0 : Int)) := by
    rw [unpR, if_neg hs, if_neg (by rw [he]; simp), if_neg (by rw [hc]; simp)]
  generalize (unpC s).2.2 = cols at hB hne hR hlen
  rcases hB.out with ⟨h1, _⟩ | ⟨c, _, h2, h3⟩
  · exact absurd h1 hne
  subst h2
  have hcell := hB.cell
  have hnew := hB.new c _ rfl
  have hpos : 0 < cols.length := List.length_pos_iff.2 hne
  have hbk : 0 < hp.length := by omega
  by_cases hb : 64 < (cols[Int.toNat 0]!).length
  · rw [if_pos (show 64 < (cols[0]!).length from hb)] at hR
    unfold t21_1
    repeat' first | (apply WO.ldb; exact rfl; exact hcell; exact rfl) | (apply WO.stj (c' := [.int .i64 0, .nilsl]); exact rfl; exact rfl; exact h0; exact ⟨rfl, Nat.le_refl _, rfl⟩; exact rfl) | apply W.seq | apply SQn | apply W.region | apply WO.nil | apply W.ret | apply SQr | (apply W.condT; exact rfl) | (apply WO.gtr; exact rfl; exact rfl; all_goals first | (intro _; exfalso; omega) | intro _) | (apply WO.ias; exact rfl; exact rfl; omega) | (apply WO.lsa; exact rfl; (first | exact rfl | assumption | exact at_new | (apply at_old; assumption) | (apply at_put; first | assumption | (simp only [put_length]; assumption))); exact fun _ => rfl; (first | omega | (simp only [List.length_set]; omega) | (simp; omega)); decide; exact rfl; case ia => infer_instance) | (apply WO.pl; exact rfl; exact rfl) | (apply WO.pp; exact rfl; exact rfl)
    exact unP_err hR rfl (at_put hbk) rfl rfl rfl
  · rw [if_neg (show ¬ 64 < (cols[0]!).length from hb)] at hR
    unfold t21_1
    repeat' first | (apply WO.ldb; exact rfl; exact hcell; exact rfl) | (apply WO.stj (c' := [.int .i64 (cols[0]!).length, .sl c 0 cols.length 1 none]); exact rfl; exact rfl; exact h0; exact ⟨rfl, Nat.le_refl _, rfl⟩; exact rfl) | apply W.seq | apply SQn | apply W.region | apply WO.nil | apply W.ret | apply W.skip | (apply W.condF; exact rfl) | (apply WO.gtr; exact rfl; exact rfl; all_goals first | (intro _; exfalso; omega) | intro _) | (apply WO.ias; exact rfl; exact rfl; omega) | (apply WO.lsa; exact rfl; (first | exact rfl | assumption | exact at_new | (apply at_old; assumption) | (apply at_put; first | assumption | (simp only [put_length]; assumption))); exact fun _ => rfl; (first | omega | (simp only [List.length_set]; omega) | (simp; omega)); decide; exact rfl; case ia => infer_instance) | (apply WO.pl; exact rfl; exact rfl) | (apply WO.pp; exact rfl; exact rfl)
    refine ⟨.inr rfl, _, rfl, _, res3 (at_put hbk) rfl rfl rfl, ?_⟩
    rw [retA0, if_neg (by simp [tupA, AV.top, topL])]
    refine ⟨.sl c 0 cols.length 1 none, ?_, ?_, rfl⟩
    · rw [hR]; rfl
    · rw [hR]
      exact .inr ⟨c, hne, rfl, at_else (by omega) h3⟩
theorem unpL_cols : ∀ (l : List Str) (cols : List Str) (i : Nat), cols.length ≤ 4096 → (unpL cols i l).2.2.length ≤ 4096
  | [], cols, i, h => h
  | x :: l, cols, i, h => by
    rw [unpL]
    by_cases hE : lineE cols x ≠ 0
    · rw [if_pos hE]; simp
    · rw [if_neg hE]
      have h0 : lineE cols x = 0 := Decidable.not_not.1 hE
      exact unpL_cols l _ _ (by rw [List.length_append, List.length_replicate]; exact (lineE_small h0).2)
theorem splitL_mem {b : UInt8} : ∀ {s x : Str}, x ∈ splitL b s → x.length ≤ s.length
  | [], x, h => by
    simp only [splitL, List.mem_singleton] at h
    subst h; exact Nat.le_refl _
  | c :: s, x, h => by
    rw [splitL] at h
    split at h
    · rcases List.mem_cons.1 h with rfl | h
      · simp
      · have := splitL_mem h; simp; omega
    · split at h
      · simp only [List.mem_singleton] at h
        subst h; simp
      · rename_i y l hy
        rcases List.mem_cons.1 h with rfl | h
        · have := splitL_mem (b := b) (s := s) (x := y) (by rw [hy]; simp)
          simp; omega
        · have := splitL_mem (b := b) (s := s) (x := x) (by rw [hy]; simp [h])
          simp; omega
theorem WO.ctp {i : Nat} {f : IOpd} {args : List IOpd} {l : List IOper} {pe : List AV} {lo : List (Nat × AV)} {hp h' : Heap} {df wr wr' : List Nat} {Q : StW → Prop} {g : AV} {ars : List AV} {v : AV} (hf : (St.mk pe lo hp df).opd f = some g) (ha : (St.mk pe lo hp df).opds args = some ars) (hc : CT M g ars hp ⟨v, h', wr'⟩)
    (h : WO M l ⟨⟨pe.set i v, lo, h', df⟩, wr' ++ wr⟩ Q) : WO M (⟨.p i, .call f args, none⟩ :: l) ⟨⟨pe, lo, hp, df⟩, wr⟩ Q := WO.ctd (r := ⟨v, h', wr'⟩) hf ha hc h
theorem t21_W (C : C21 M) (s : Str) (hs : ¬ 4096 < s.length) (he : endB 10 s = true) (J : Option Blk) (a2 a3 a4 a5 a6 a7 a8 a9 a10 a11 a12 a13 : AV) (lo : List (Nat × AV)) (wr : List Nat) :
    W M t21 ⟨⟨[.str s, .ptr 0 0, a2, a3, a4, a5, a6, a7, a8, a9, a10, a11, a12, a13], lo, [some (.cells [.int .i64 0, .nilsl] 24), J], []⟩, wr⟩ (unP s) := by
  have q95 := fun h => C.c95 s h (by omega)
  rw [he, if_pos rfl] at q95
  have hdl : s.dropLast.length ≤ s.length := by rw [List.length_dropLast]; omega
  have q94 := C.c94 s.dropLast [some (.cells [.int .i64 0, .nilsl] 24), J, some (.cells [.nilsl] 164)] (by omega)
  have hL := splitL_len 10 s.dropLast
  have hcl := cntB_le 10 s.dropLast
  unfold t21
  repeat' first | apply W.seq | apply SQn | apply W.region | apply WO.nil | apply W.block | (apply WO.cll; exact rfl; exact rfl; first | exact q95 _) | (apply WO.ctp; exact rfl; exact rfl; exact CT.ext (fi := []) (ca := []) q94) | (apply WO.hlv; exact rfl; exact rfl; exact rfl) | (apply WO.pl; exact rfl; exact rfl) | (apply WO.pp; exact rfl; exact rfl)
  refine loop21 C s (splitL 10 s.dropLast) (fun x hx => by have := splitL_mem hx; omega) (by omega) (splitL 10 s.dropLast).length 0 [] .nilsl _ _ _ _ _ _ _ _ _ _ (by omega) (Nat.le_refl 4) ⟨rfl, .inl ⟨rfl, rfl⟩, fun c n h => by cases h⟩ rfl rfl (Nat.zero_le _) (fun h0 st h1 h2 h3 h4 h5 => ?_) (fun h0 hp' o' a2 a3 a4 a7 a8 a9 a10 lo wr hB h4 h5 => ?_)
  · rw [List.drop_zero] at h0 h4 h5
    apply BQr
    apply SQr
    refine unP_err (line := (unpC s).1) (err := (unpC s).2.1) ?_ h1 h2 h3 h4 h5
    rw [unpR, if_neg hs, if_neg (by rw [he]; simp), if_pos (show (unpC s).2.1 ≠ 0 from h0)]
  · rw [List.drop_zero] at h0 hB
    repeat' first | (refine t21_1_W s hs he h0 o' hp' h4 hB h5 ?_ ?_ _ _ _ _ _ _ _ _ _ _ _ _ _ _) | apply SQn | apply BQe
    · exact unpL_ne _ _ _ h0 (.inr (splitL_ne 10 s.dropLast))
    · exact Nat.lt_of_le_of_lt (unpL_cols _ _ _ (Nat.zero_le _)) (by decide)
theorem w21 (C : C21 M) (s : Str) (hl : s.length < 1000000) : ∃ v hh, OutW hh v (unpR s).2.1 ∧ Run M 21 [.str s] [] ⟨.tup [.agg [.int .i64 (unpR s).1, v], .int .i64 (unpR s).2.2.1, .int .i64 (unpR s).2.2.2], hh, []⟩ := by
  have q92 := fun h => C.c92 s h hl
  have q91 := C.t.c91
  have q90 := fun a b => C.t.c90 (.sl 1 0 2 1 (some 2)) [a, b] [some (.cells [.int .i64 0, .nilsl] 24), some (.cells (ints [a, b]) 28)] (ints_at' rfl rfl) (by simp)
  have key : WRun M 21 [.str s] [] (unK s) := by
    refine WRun.of_W (by rw [C.t.ft]; exact ft21) (by simp) ?_
    unfold b21
    simp only [List.map_cons, List.map_nil, List.getElem?_cons_zero, List.getElem?_cons_succ, List.getElem?_nil, Option.getD_some, Option.getD_none]
    by_cases hb : 4096 < s.length
    · have hR : unpR s = (0, [], 0, 26) := by rw [unpR, if_pos hb]
      have q : ∀ e, M.ext 90 _ _ = some ⟨.int .i64 26, _, _⟩ := fun e => q90 26 e
      repeat' first | (apply WO.gtr; exact rfl; exact rfl; all_goals first | (intro _; exfalso; omega) | intro _) | (apply WO.stj (c' := [.int .i64 0, .nilsl]); exact rfl; exact rfl; exact rfl; exact ⟨rfl, Nat.le_refl _, rfl⟩; exact rfl) | apply W.seq | apply SQn | apply W.region | apply WO.nil | apply W.ret | apply SQr | (apply W.condT; exact rfl) | (apply WO.neq; exact rfl; exact rfl; all_goals first | (intro _; exfalso; omega) | intro _) | (apply WO.cll; exact rfl; exact rfl; first | exact q92 _) | (apply WO.cll; exact rfl; exact rfl; first | exact q91 _ _ _ | exact q _) | (apply WO.hlv; exact rfl; exact rfl; exact rfl) | (apply WO.hpv; exact rfl; exact rfl; exact rfl) | (apply WO.pl; exact rfl; exact rfl) | (apply WO.pp; exact rfl; exact rfl)
      exact unP_err hR rfl rfl rfl rfl rfl
    · cases he : endB 10 s with
      | false =>
        have hR : unpR s = (0, [], 0, 28) := by rw [unpR, if_neg hb, if_pos he]
        rw [he] at q92
        have q : M.ext 90 _ _ = some ⟨.int .i64 28, _, _⟩ := q90 0 28
        repeat' first | (apply WO.gtr; exact rfl; exact rfl; all_goals first | (intro _; exfalso; omega) | intro _) | (apply WO.stj (c' := [.int .i64 0, .nilsl]); exact rfl; exact rfl; exact rfl; exact ⟨rfl, Nat.le_refl _, rfl⟩; exact rfl) | apply W.seq | apply SQn | apply W.region | apply WO.nil | apply W.ret | apply SQr | (apply W.condT; exact rfl) | (apply WO.neq; exact rfl; exact rfl; all_goals first | (intro _; exfalso; omega) | intro _) | (apply WO.cll; exact rfl; exact rfl; first | exact q92 _) | (apply WO.cll; exact rfl; exact rfl; first | exact q91 _ _ _ | exact q) | (apply WO.hlv; exact rfl; exact rfl; exact rfl) | (apply WO.hpv; exact rfl; exact rfl; exact rfl) | (apply WO.pl; exact rfl; exact rfl) | (apply WO.pp; exact rfl; exact rfl)
        exact unP_err hR rfl rfl rfl rfl rfl
      | true =>
        rw [he] at q92
        have q : M.ext 90 _ _ = some ⟨.int .i64 0, _, _⟩ := q90 0 0
        repeat' first | (apply WO.gtr; exact rfl; exact rfl; all_goals first | (intro _; exfalso; omega) | intro _) | (exact t21_W C s hb he _ _ _ _ _ _ _ _ _ _ _ _ _ _ _) | apply W.seq | apply SQn | apply W.region | apply WO.nil | apply W.skip | (apply W.condF; exact rfl) | (apply WO.neq; exact rfl; exact rfl; all_goals first | (intro _; exfalso; omega) | intro _) | (apply WO.cll; exact rfl; exact rfl; first | exact q92 _) | (apply WO.cll; exact rfl; exact rfl; first | exact q91 _ _ _ | exact q) | (apply WO.hlv; exact rfl; exact rfl; exact rfl) | (apply WO.hpv; exact rfl; exact rfl; exact rfl) | (apply WO.pl; exact rfl; exact rfl) | (apply WO.pp; exact rfl; exact rfl)
  obtain ⟨r, hr, v, h1, h2, h3⟩ := key
  obtain ⟨rv, rh, rwr⟩ := r
  obtain rfl : rv = _ := h1
  obtain rfl : rwr = [] := h3
  exact ⟨v, rh, h2, hr⟩
end Go.Ab.Ch5


/-
  Own work: the reference's small integers.
-/
namespace Go.Ab.Ch5
variable {M : Mach} {cap : Option Nat}

theorem loop96 (s : Str) (hs : s.length ≤ 9) {Q : Ex → StW → Prop} : ∀ (r i n : Nat) (lo : List (Nat × AV)) (wr : List Nat), i + r = s.length → n < 10 ^ i →
    ((s.drop i).all isD = true → ∀ lo wr, Q (.exit 0) ⟨⟨[.str s, .int .i64 0, .bool false, .int .i64 (dvF n (s.drop i)), .int .i64 s.length], lo, [], []⟩, wr⟩) →
    ((s.drop i).all isD = false → ∀ a3 a4 lo wr, Q .ret ⟨⟨[.str s, .int .i64 0, .bool false, a3, a4], lo, [], []⟩, wr⟩) →
    W M (.loop b96_0) ⟨⟨[.str s, .int .i64 0, .bool false, .int .i64 n, .int .i64 i], lo, [], []⟩, wr⟩ Q := by
  intro r
  induction r with
  | zero =>
    intro i n lo wr hi hn h1 h2
    obtain rfl : i = s.length := by omega
    rw [List.drop_length] at h1
    refine W.loop ?_
    unfold b96_0
    repeat' first | apply W.seq | apply SQn | apply W.region | apply WO.nil | apply W.exit | apply SQe | apply LQe | (apply W.condF; exact rfl) | (apply WO.lss; exact rfl; exact rfl; all_goals first | (intro _; exfalso; omega) | intro _) | (apply WO.pl; exact rfl; exact rfl)
    exact h1 rfl _ _
  | succ r ih =>
    intro i n lo wr hi hn h1 h2
    have hil : i < s.length := by omega
    have hp : 10 ^ i ≤ 10 ^ 8 := Nat.pow_le_pow_right (by decide) (by omega)
    have ei : ((i : Int)).toNat = i := Int.toNat_natCast i
    have hg : s[((i : Int)).toNat]! = s[i] := by rw [ei]; exact getElem!_pos s i hil
    have hpow : 10 ^ (i + 1) = 10 * 10 ^ i := by rw [Nat.pow_succ, Nat.mul_comm]
    rw [List.drop_eq_getElem_cons hil, List.all_cons, dvF_cons, ← hg] at h1
    rw [List.drop_eq_getElem_cons hil, List.all_cons, ← hg] at h2
    have hD := isD_iff s[((i : Int)).toNat]!
    refine W.loop ?_
    unfold b96_0
    cases hd : isD s[((i : Int)).toNat]! with
    | true =>
      have hx := hD.1 hd
      rw [hd, Bool.true_and] at h1 h2
      repeat' first | (apply WO.sub8; exact rfl; exact rfl; omega) | apply W.seq | apply SQn | apply W.region | apply WO.nil | apply W.block | apply W.skip | apply BQn | (apply W.condT; exact rfl) | (apply W.condF; exact rfl) | (apply WO.gF; exact rfl) | (apply WO.lss; exact rfl; exact rfl; all_goals first | (intro _; exfalso; omega) | intro _) | (apply WO.gtr; exact rfl; exact rfl; all_goals first | (intro _; exfalso; omega) | intro _) | (apply WO.cvi; exact rfl; omega) | (apply WO.pkF; exact rfl; exact rfl) | (apply WO.add; exact rfl; exact rfl; omega) | (apply WO.mul; exact rfl; exact rfl; omega) | (apply WO.idx; exact rfl; exact rfl; omega) | (apply WO.pl; exact rfl; exact rfl) | (apply WO.pp; exact rfl; exact rfl)
      refine LQn ?_
      have e := ih (i + 1) (10 * n + ((s[((i : Int)).toNat]!).toNat - 48))
      rw [show (((10 * n + ((s[((i : Int)).toNat]!).toNat - 48) : Nat) : Int)) = 10 * (n : Int) + (((s[((i : Int)).toNat]!).toNat : Int) - 48) by omega, show (((i + 1 : Nat) : Int)) = (i : Int) + 1 by omega] at e
      exact e _ _ (by omega) (by omega) h1 h2
    | false =>
      have hx : ¬ (48 ≤ (s[((i : Int)).toNat]!).toNat ∧ (s[((i : Int)).toNat]!).toNat < 58) := fun h => by rw [hD.2 h] at hd; cases hd
      rw [hd, Bool.false_and] at h2
      repeat' first | apply W.seq | apply SQn | apply W.region | apply WO.nil | apply W.block | apply W.ret | apply W.skip | apply SQr | apply BQr | apply LQr | (apply W.condT; exact rfl) | (apply WO.gF; exact rfl) | (apply WO.sF; exact rfl) | (apply WO.lss; exact rfl; exact rfl; all_goals first | (intro _; exfalso; omega) | intro _) | (apply WO.gtr; exact rfl; exact rfl; all_goals first | (intro _; exfalso; omega) | intro _) | (apply WO.pkT; exact rfl; exact rfl) | (apply WO.pkF; exact rfl; exact rfl) | (apply WO.idx; exact rfl; exact rfl; omega) | (apply WO.pl; exact rfl; exact rfl) | (apply WO.pp; exact rfl; exact rfl)
      all_goals exact h2 rfl _ _ _ _
theorem w96 (hft : M.FT = FT) (s : Str) (hl : s.length < 1000000) : Run M 96 [.str s] [] ⟨intV s, [], []⟩ := by
  refine run_of_W (by rw [hft]; exact ft96) (by simp) ?_
  unfold b96
  simp only [List.map_cons, List.map_nil, List.getElem?_cons_zero, List.getElem?_cons_succ, List.getElem?_nil, Option.getD_some, Option.getD_none]
  by_cases h0 : s = []
  · subst h0
    have hz : ([] : Str).length = 0 := rfl
    repeat' first | apply W.seq | apply SQn | apply W.region | apply WO.nil | apply W.ret | apply SQr | (apply W.condT; exact rfl) | (apply WO.sF; exact rfl) | (apply WO.sU; exact rfl) | (apply WO.eql; exact rfl; exact rfl; all_goals first | (intro _; exfalso; omega) | intro _) | (apply WO.pkT; exact rfl; exact rfl) | (apply WO.pl; exact rfl; exact rfl) | (apply WO.pp; exact rfl; exact rfl)
    exact ⟨.inr rfl, rfl, _, rfl, rfl, rfl⟩
  have hpos : 0 < s.length := List.length_pos_iff.2 h0
  by_cases h9 : 9 < s.length
  · have e : intOk s = false := by rw [intOk, decide_eq_false (show ¬ s.length ≤ 9 by omega)]; simp
    rw [intV, e]
    repeat' first | apply W.seq | apply SQn | apply W.region | apply WO.nil | apply W.ret | apply SQr | (apply W.condT; exact rfl) | (apply WO.gF; exact rfl) | (apply WO.sF; exact rfl) | (apply WO.sU; exact rfl) | (apply WO.gtr; exact rfl; exact rfl; all_goals first | (intro _; exfalso; omega) | intro _) | (apply WO.eql; exact rfl; exact rfl; all_goals first | (intro _; exfalso; omega) | intro _) | (apply WO.pkT; exact rfl; exact rfl) | (apply WO.pkF; exact rfl; exact rfl) | (apply WO.pl; exact rfl; exact rfl) | (apply WO.pp; exact rfl; exact rfl)
    exact ⟨.inr rfl, rfl, _, rfl, rfl, rfl⟩
  have e0 : intOk s = (s.all isD && !(decide (1 < s.length) && decide (s[0]! = 48))) := by
    rw [intOk, decide_eq_true h0, decide_eq_true (show s.length ≤ 9 by omega)]; simp
  by_cases h1 : 1 < s.length ∧ s[0]! = 48
  · have e : intOk s = false := by rw [e0, decide_eq_true h1.1, decide_eq_true h1.2]; simp
    have hq : (s[Int.toNat 0]!).toNat = 48 := by rw [show s[Int.toNat 0]! = 48 from h1.2]; rfl
    have h11 := h1.1
    rw [intV, e]
    repeat' first | apply W.seq | apply SQn | apply W.region | apply WO.nil | apply W.ret | apply SQr | (apply W.condT; exact rfl) | (apply WO.gT; exact rfl) | (apply WO.gF; exact rfl) | (apply WO.gtr; exact rfl; exact rfl; all_goals first | (intro _; exfalso; omega) | intro _) | (apply WO.eql; exact rfl; exact rfl; all_goals first | (intro _; exfalso; omega) | intro _) | (apply WO.pkT; exact rfl; exact rfl) | (apply WO.pkF; exact rfl; exact rfl) | (apply WO.idx; exact rfl; exact rfl; omega) | (apply WO.pl; exact rfl; exact rfl) | (apply WO.pp; exact rfl; exact rfl)
    exact ⟨.inr rfl, rfl, _, rfl, rfl, rfl⟩
  · have e : intOk s = s.all isD := by
      rw [e0]
      by_cases hlen : 1 < s.length
      · rw [decide_eq_false (fun h => h1 ⟨hlen, h⟩)]; simp
      · rw [decide_eq_false hlen]; simp
    have hq : 1 < s.length → (s[Int.toNat 0]!).toNat ≠ 48 := fun hlen h => h1 ⟨hlen, UInt8.toNat_inj.1 (h.trans rfl)⟩
    by_cases hlen : 1 < s.length
    · have hq := hq hlen
      repeat' first | apply W.seq | apply SQn | apply W.region | apply WO.nil | apply W.block | apply W.skip | (apply W.condF; exact rfl) | (apply WO.gT; exact rfl) | (apply WO.gF; exact rfl) | (apply WO.gtr; exact rfl; exact rfl; all_goals first | (intro _; exfalso; omega) | intro _) | (apply WO.eql; exact rfl; exact rfl; all_goals first | (intro _; exfalso; omega) | intro _) | (apply WO.pkT; exact rfl; exact rfl) | (apply WO.pkF; exact rfl; exact rfl) | (apply WO.idx; exact rfl; exact rfl; omega) | (apply WO.pl; exact rfl; exact rfl) | (apply WO.pp; exact rfl; exact rfl)
      refine loop96 s (by omega) s.length 0 0 _ _ (by omega) (by decide) (fun hd lo wr => ?_) (fun hd a3 a4 lo wr => ?_)
      · rw [List.drop_zero] at hd
        repeat' first | apply W.seq | apply SQn | apply W.region | apply WO.nil | apply W.ret | apply BQe | (apply WO.pl; exact rfl; exact rfl) | (apply WO.pp; exact rfl; exact rfl)
        refine ⟨.inr rfl, rfl, _, rfl, ?_, rfl⟩
        rw [intV, e, hd]
        rfl
      · rw [List.drop_zero] at hd
        apply BQr
        apply SQr
        refine ⟨.inr rfl, rfl, _, rfl, ?_, rfl⟩
        rw [intV, e, hd]
        rfl
    · repeat' first | apply W.seq | apply SQn | apply W.region | apply WO.nil | apply W.block | apply W.skip | (apply W.condF; exact rfl) | (apply WO.gF; exact rfl) | (apply WO.sT; exact rfl) | (apply WO.gtr; exact rfl; exact rfl; all_goals first | (intro _; exfalso; omega) | intro _) | (apply WO.eql; exact rfl; exact rfl; all_goals first | (intro _; exfalso; omega) | intro _) | (apply WO.pkF; exact rfl; exact rfl) | (apply WO.pl; exact rfl; exact rfl) | (apply WO.pp; exact rfl; exact rfl)
      refine loop96 s (by omega) s.length 0 0 _ _ (by omega) (by decide) (fun hd lo wr => ?_) (fun hd a3 a4 lo wr => ?_)
      · rw [List.drop_zero] at hd
        repeat' first | apply W.seq | apply SQn | apply W.region | apply WO.nil | apply W.ret | apply BQe | (apply WO.pl; exact rfl; exact rfl) | (apply WO.pp; exact rfl; exact rfl)
        refine ⟨.inr rfl, rfl, _, rfl, ?_, rfl⟩
        rw [intV, e, hd]
        rfl
      · rw [List.drop_zero] at hd
        apply BQr
        apply SQr
        refine ⟨.inr rfl, rfl, _, rfl, ?_, rfl⟩
        rw [intV, e, hd]
        rfl
end Go.Ab.Ch5


/-
  Own work: the reference's Unpack: its loops.
-/
namespace Go.Ab.Ch5
variable {M : Mach} {cap : Option Nat}

theorem get_drop {s r : Str} {c : UInt8} {e : Nat} (h : s.drop e = c :: r) : e < s.length ∧ s[e]! = c ∧ s.drop (e + 1) = r := by
  have hl : e < s.length := by
    have := congrArg List.length h
    simp at this
    omega
  have := List.drop_eq_getElem_cons hl
  rw [h] at this
  exact ⟨hl, by rw [getElem!_pos s e hl]; exact (List.cons.inj this).1.symm, (List.cons.inj this).2.symm⟩
abbrev peU (s : Str) (a2 a3 a5 a6 a7 a8 a9 a10 a11 a12 a13 a14 : AV) : List AV := [.str s, .ptr 0 0, a2, a3, .ptr 1 0, a5, a6, a7, a8, a9, a10, a11, a12, a13, a14]
theorem loop22_0 (s y : Str) (hs : s.length < 1000000) (a2 a3 a5 a6 a8 a9 a10 a11 a12 a13 a14 : AV) (hp : Heap) {Q : Ex → StW → Prop} : ∀ (x : Str) (e : Nat) (lo : List (Nat × AV)) (wr : List Nat), s.drop e = x ++ 10 :: y → 10 ∉ x →
    (∀ lo, Q (.exit 2) ⟨⟨peU s a2 a3 a5 a6 (.int .i64 ((e + x.length : Nat) : Int)) a8 a9 a10 a11 a12 a13 a14, lo, hp, []⟩, wr⟩) → W M (.loop b22_0) ⟨⟨peU s a2 a3 a5 a6 (.int .i64 e) a8 a9 a10 a11 a12 a13 a14, lo, hp, []⟩, wr⟩ Q
  | [], e, lo, wr, h, hn, hQ => by
    obtain ⟨h1, h2, h3⟩ := get_drop h
    have ei : ((e : Int)).toNat = e := Int.toNat_natCast e
    have hg : (s[((e : Int)).toNat]!).toNat = 10 := by rw [ei, h2]; rfl
    refine W.loop ?_
    unfold b22_0
    repeat' first | apply W.seq | apply SQn | apply W.region | apply WO.nil | apply W.exit | apply SQe | apply LQe | (apply W.condF; exact rfl) | (apply WO.neq; exact rfl; exact rfl; all_goals first | (intro _; exfalso; omega) | intro _) | (apply WO.idx; exact rfl; exact rfl; omega) | (apply WO.pl; exact rfl; exact rfl)
    exact hQ _
  | c :: x, e, lo, wr, h, hn, hQ => by
    obtain ⟨h1, h2, h3⟩ := get_drop h
    have ei : ((e : Int)).toNat = e := Int.toNat_natCast e
    have hc : c ≠ 10 := fun e => hn (by rw [e]; simp)
    have hg : (s[((e : Int)).toNat]!).toNat ≠ 10 := fun h => hc (by rw [ei, h2] at h; exact UInt8.toNat_inj.1 (h.trans rfl))
    have ih := loop22_0 s y hs a2 a3 a5 a6 a8 a9 a10 a11 a12 a13 a14 hp (Q := Q) x (e + 1)
    refine W.loop ?_
    unfold b22_0
    repeat' first | apply W.seq | apply SQn | apply W.region | apply WO.nil | apply W.block | apply W.skip | apply BQn | (apply W.condT; exact rfl) | (apply WO.neq; exact rfl; exact rfl; all_goals first | (intro _; exfalso; omega) | intro _) | (apply WO.add; exact rfl; exact rfl; omega) | (apply WO.idx; exact rfl; exact rfl; omega) | (apply WO.pl; exact rfl; exact rfl) | (apply WO.pp; exact rfl; exact rfl)
    refine LQn ?_
    refine ih _ _ h3 (fun h => hn (by simp [h])) fun lo => ?_
    have := hQ lo
    rw [List.length_cons, show e + (x.length + 1) = e + 1 + x.length by omega] at this
    exact this
theorem loop22_1 (s y : Str) (hs : s.length < 1000000) (a2 a3 a5 a6 a9 a10 a11 a12 a13 a14 : AV) (hp : Heap) (E : Nat) (hE : E < s.length) {Q : Ex → StW → Prop} : ∀ (z : Str) (k : Nat) (lo : List (Nat × AV)) (wr : List Nat), s.drop k = z ++ 10 :: y → k + z.length = E →
    (∀ lo, Q (.exit 4) ⟨⟨peU s a2 a3 a5 a6 (.int .i64 E) (.int .i64 ((k + (spl1 32 z).1.length : Nat) : Int)) a9 a10 a11 a12 a13 a14, lo, hp, []⟩, wr⟩) → W M (.loop b22_1) ⟨⟨peU s a2 a3 a5 a6 (.int .i64 E) (.int .i64 k) a9 a10 a11 a12 a13 a14, lo, hp, []⟩, wr⟩ Q
  | [], k, lo, wr, h, hn, hQ => by
    have hz : ([] : Str).length = 0 := rfl
    refine W.loop ?_
    unfold b22_1
    repeat' first | apply W.seq | apply SQn | apply W.region | apply WO.nil | apply W.exit | apply SQe | apply LQe | (apply W.condF; exact rfl) | (apply WO.sT; exact rfl) | (apply WO.lss; exact rfl; exact rfl; all_goals first | (intro _; exfalso; omega) | intro _) | (apply WO.pkF; exact rfl; exact rfl) | (apply WO.pl; exact rfl; exact rfl)
    exact hQ _
  | c :: z, k, lo, wr, h, hn, hQ => by
    obtain ⟨h1, h2, h3⟩ := get_drop h
    have hl : (c :: z).length = z.length + 1 := rfl
    have ei : ((k : Int)).toNat = k := Int.toNat_natCast k
    have ih := loop22_1 s y hs a2 a3 a5 a6 a9 a10 a11 a12 a13 a14 hp E hE (Q := Q) z (k + 1)
    refine W.loop ?_
    unfold b22_1
    by_cases hc : c = 32
    · have hg : (s[((k : Int)).toNat]!).toNat = 32 := by rw [ei, h2, hc]; rfl
      have e : (spl1 32 (c :: z)).1 = [] := by rw [spl1, if_pos hc]
      rw [e] at hQ
      repeat' first | apply W.seq | apply SQn | apply W.region | apply WO.nil | apply W.exit | apply SQe | apply LQe | (apply W.condF; exact rfl) | (apply WO.gT; exact rfl) | (apply WO.lss; exact rfl; exact rfl; all_goals first | (intro _; exfalso; omega) | intro _) | (apply WO.neq; exact rfl; exact rfl; all_goals first | (intro _; exfalso; omega) | intro _) | (apply WO.pkT; exact rfl; exact rfl) | (apply WO.idx; exact rfl; exact rfl; omega) | (apply WO.pl; exact rfl; exact rfl)
      exact hQ _
    · have hg : (s[((k : Int)).toNat]!).toNat ≠ 32 := fun h => hc (by rw [ei, h2] at h; exact UInt8.toNat_inj.1 (h.trans rfl))
      have e : (spl1 32 (c :: z)).1 = c :: (spl1 32 z).1 := by rw [spl1, if_neg hc]
      rw [e] at hQ
      repeat' first | apply W.seq | apply SQn | apply W.region | apply WO.nil | apply W.block | apply W.skip | apply BQn | (apply W.condT; exact rfl) | (apply WO.gT; exact rfl) | (apply WO.lss; exact rfl; exact rfl; all_goals first | (intro _; exfalso; omega) | intro _) | (apply WO.neq; exact rfl; exact rfl; all_goals first | (intro _; exfalso; omega) | intro _) | (apply WO.pkT; exact rfl; exact rfl) | (apply WO.add; exact rfl; exact rfl; omega) | (apply WO.idx; exact rfl; exact rfl; omega) | (apply WO.pl; exact rfl; exact rfl) | (apply WO.pp; exact rfl; exact rfl)
      refine LQn ?_
      refine ih _ _ h3 (by omega) fun lo => ?_
      have := hQ lo
      rw [List.length_cons, show k + ((spl1 32 z).1.length + 1) = k + 1 + (spl1 32 z).1.length by omega] at this
      exact this
theorem loop22_2 (s col : Str) (hs : col.length < 1000000) (a2 a3 a5 a6 a7 a8 a9 a13 a14 : AV) (hp : Heap) {Q : Ex → StW → Prop} : ∀ (r i : Nat) (b : Bool) (lo : List (Nat × AV)) (wr : List Nat), i + r = col.length →
    (∀ lo, Q (.exit 6) ⟨⟨peU s a2 a3 a5 a6 a7 a8 a9 (.bool (b && !hasB 32 (col.drop i))) (.str col) (.int .i64 col.length) a13 a14, lo, hp, []⟩, wr⟩) → W M (.loop b22_2) ⟨⟨peU s a2 a3 a5 a6 a7 a8 a9 (.bool b) (.str col) (.int .i64 i) a13 a14, lo, hp, []⟩, wr⟩ Q := by
  intro r
  induction r with
  | zero =>
    intro i b lo wr hi hQ
    obtain rfl : i = col.length := by omega
    rw [List.drop_length] at hQ
    refine W.loop ?_
    unfold b22_2
    cases b
    all_goals
      repeat' first | apply W.seq | apply SQn | apply W.region | apply WO.nil | apply W.exit | apply SQe | apply LQe | (apply W.condF; exact rfl) | (apply WO.lss; exact rfl; exact rfl; all_goals first | (intro _; exfalso; omega) | intro _) | (apply WO.pl; exact rfl; exact rfl)
      exact hQ _
  | succ r ih =>
    intro i b lo wr hi hQ
    have hil : i < col.length := by omega
    have ei : ((i : Int)).toNat = i := Int.toNat_natCast i
    have e := hasB_drop (c := 32) (s := col) (i := i) hil
    refine W.loop ?_
    unfold b22_2
    cases b with
    | false =>
      repeat' first | apply W.seq | apply SQn | apply W.region | apply WO.nil | apply W.block | apply W.skip | apply BQn | (apply W.condT; exact rfl) | (apply WO.sT; exact rfl) | (apply WO.lss; exact rfl; exact rfl; all_goals first | (intro _; exfalso; omega) | intro _) | (apply WO.pkF; exact rfl; exact rfl) | (apply WO.add; exact rfl; exact rfl; omega) | (apply WO.pl; exact rfl; exact rfl) | (apply WO.pp; exact rfl; exact rfl)
      refine LQn ?_
      exact ih (i + 1) false _ _ (by omega) hQ
    | true =>
      rw [Bool.true_and, e] at hQ
      by_cases hc : ((col[i]!).toNat : Int) = 32
      · rw [decide_eq_true hc] at hQ
        have hg : ((col[((i : Int)).toNat]!).toNat : Int) = 32 := by rw [ei]; exact hc
        repeat' first | apply W.seq | apply SQn | apply W.region | apply WO.nil | apply W.block | apply W.skip | apply BQn | (apply W.condT; exact rfl) | (apply WO.gT; exact rfl) | (apply WO.lss; exact rfl; exact rfl; all_goals first | (intro _; exfalso; omega) | intro _) | (apply WO.neq; exact rfl; exact rfl; all_goals first | (intro _; exfalso; omega) | intro _) | (apply WO.pkT; exact rfl; exact rfl) | (apply WO.add; exact rfl; exact rfl; omega) | (apply WO.idx; exact rfl; exact rfl; omega) | (apply WO.pl; exact rfl; exact rfl) | (apply WO.pp; exact rfl; exact rfl)
        refine LQn ?_
        exact ih (i + 1) false _ _ (by omega) hQ
      · rw [decide_eq_false hc] at hQ
        have hg : ¬ ((col[((i : Int)).toNat]!).toNat : Int) = 32 := by rw [ei]; exact hc
        repeat' first | apply W.seq | apply SQn | apply W.region | apply WO.nil | apply W.block | apply W.skip | apply BQn | (apply W.condT; exact rfl) | (apply WO.gT; exact rfl) | (apply WO.lss; exact rfl; exact rfl; all_goals first | (intro _; exfalso; omega) | intro _) | (apply WO.neq; exact rfl; exact rfl; all_goals first | (intro _; exfalso; omega) | intro _) | (apply WO.pkT; exact rfl; exact rfl) | (apply WO.add; exact rfl; exact rfl; omega) | (apply WO.idx; exact rfl; exact rfl; omega) | (apply WO.pl; exact rfl; exact rfl) | (apply WO.pp; exact rfl; exact rfl)
        refine LQn ?_
        exact ih (i + 1) true _ _ (by omega) hQ
end Go.Ab.Ch5


/-
  Own work: the reference's Unpack.
-/
namespace Go.Ab.Ch5
variable {M : Mach} {cap : Option Nat}

structure UnH (hp : Heap) (rows : Int) (cols : List Str) (o : AV) : Prop where
  h0 : hp.at 0 = some (.cells [.int .i64 0, .nilsl] 25)
  h1 : hp.at 1 = some (.cells [.int .i64 rows, o] 25)
  out : OutW hp o cols
  new : ∀ c n, o = .sl c 0 n 1 none → 2 ≤ c
  len : 2 ≤ hp.length
theorem UnH.push {hp H : Heap} {rows : Int} {cols : List Str} {x : Str} {o : AV} (h : UnH hp rows cols o) {K : Heap} (hK : K = hp ++ [some (.cells (strs [x]) 9)]) (g1 : H.length = K.length + 1) (g2 : H.at K.length = some (.cells (strs (cols ++ [x])) 9)) (g3 : ∀ k, (∀ c n, o = .sl c 0 n 1 none → k ≠ c) → k < K.length → H[k]? = K[k]?) :
    H.at 1 = some (.cells [.int .i64 rows, o] 25) ∧ UnH (H.put 1 (some (.cells [.int .i64 rows, .sl K.length 0 (cols ++ [x]).length 1 none] 25))) rows (cols ++ [x]) (.sl K.length 0 (cols ++ [x]).length 1 none) := by
  subst hK
  have hl := h.len
  have hkl : (hp ++ [some (Blk.cells (strs [x]) 9)]).length = hp.length + 1 := by simp
  have e : ∀ k, k < 2 → H.at k = hp.at k := fun k hk => by
    refine (at_get (g3 k (fun c n e => by have := h.new c n e; omega) (by omega))).trans ?_
    simp only [Heap.at, List.getElem?_append_left (show k < hp.length by omega)]
  refine ⟨(e 1 (by decide)).trans h.h1, at_else (by decide) ((e 0 (by decide)).trans h.h0), at_put (by omega), .inr ⟨_, by simp, rfl, at_else (by omega) g2⟩, fun c n e => ?_, by rw [put_length]; omega⟩
  cases e
  omega
theorem loop22_3 (s x : Str) (n : Nat) (rows : Int) (a2 a3 a5 a6 a7 a8 a10 a12 a13 : AV) {Q : Ex → StW → Prop} : ∀ (r j : Nat) (cols : List Str) (o : AV) (hp : Heap) (lo : List (Nat × AV)) (wr : List Nat), j + r = n → n ≤ 4096 → cols.length + r ≤ 4096 → UnH hp rows cols o →
    (∀ hp' o' lo wr, UnH hp' rows (cols ++ List.replicate r x) o' → Q (.exit 8) ⟨⟨peU s a2 a3 a5 a6 a7 a8 (.int .i64 n) a10 (.str x) a12 a13 (.int .i64 n), lo, hp', []⟩, wr⟩) →
    W M (.loop b22_3) ⟨⟨peU s a2 a3 a5 a6 a7 a8 (.int .i64 n) a10 (.str x) a12 a13 (.int .i64 j), lo, hp, []⟩, wr⟩ Q := by
  intro r
  induction r with
  | zero =>
    intro j cols o hp lo wr hj hn hk hH hQ
    obtain rfl : j = n := by omega
    rw [List.replicate_zero, List.append_nil] at hQ
    refine W.loop ?_
    unfold b22_3
    repeat' first | apply W.seq | apply SQn | apply W.region | apply WO.nil | apply W.exit | apply SQe | apply LQe | (apply W.condF; exact rfl) | (apply WO.lss; exact rfl; exact rfl; all_goals first | (intro _; exfalso; omega) | intro _) | (apply WO.pl; exact rfl; exact rfl)
    exact hQ _ _ _ _ hH
  | succ r ih =>
    intro j cols o hp lo wr hj hn hk hH hQ
    have h1 := hH.h1
    have hs : sliceCells (hp ++ [some (.cells (strs [x]) 9)]) (.sl hp.length 0 1 1 (some 1)) = some (strs [x], ([x] : List Str).length) := by
      have e : Heap.at (hp ++ [some (Blk.cells (strs [x]) 9)]) hp.length = some (.cells (strs [x]) 9) := at_new
      simp only [sliceCells, e]
      rfl
    refine W.loop ?_
    unfold b22_3
    repeat' first | (apply WO.ldj; exact rfl; exact h1; exact rfl) | (refine OutW.pushK (X := [x]) (OutW.olds hH.out) rfl rfl hs (Nat.succ_pos 0) (by simp; omega) (fun H w' g1 g2 g3 g4 => ?_)) | apply W.seq | apply SQn | apply W.region | apply WO.nil | apply W.block | apply W.skip | (apply W.condT; exact rfl) | (apply WO.lss; exact rfl; exact rfl; all_goals first | (intro _; exfalso; omega) | intro _) | (apply WO.hlv; exact rfl; exact rfl; exact rfl) | (apply WO.pl; exact rfl; exact rfl)
    obtain ⟨k1, k2⟩ := hH.push (x := x) rfl g1 g2 g3
    repeat' first | (apply WO.stj; exact rfl; exact rfl; exact k1; exact ⟨rfl, Nat.le_refl _, rfl⟩; exact rfl) | apply SQn | apply W.region | apply WO.nil | apply BQn | (apply WO.add; exact rfl; exact rfl; omega) | (apply WO.pl; exact rfl; exact rfl) | (apply WO.pp; exact rfl; exact rfl)
    refine LQn ?_
    refine ih (j + 1) _ _ _ _ _ (by omega) hn (by simp; omega) k2 fun hp' o' lo wr h => hQ hp' o' lo wr ?_
    rw [List.replicate_succ, ← List.singleton_append, ← List.append_assoc]
    exact h
end Go.Ab.Ch5


/-
  Own work: the reference's Unpack: a line.
-/
namespace Go.Ab.Ch5
variable {M : Mach} {cap : Option Nat}

def t22_4 : ICode :=
   (.seq (.seq (.region [⟨(.l 86), .mv (.p 10), none⟩,
                ⟨(.l 87), .un .not (.l 86), none⟩,
                ⟨(.l 88), .mv (.l 87), none⟩,
                ⟨(.l 89), .mv (.p 11), some ((.l 88), false)⟩,
                ⟨(.l 90), .bin .eql (.l 89) (.c (.str [])), some ((.l 88), false)⟩,
                ⟨(.l 91), .pick (.l 88) (.c (.bool true)) (.l 90), none⟩])
              (.cond (.l 91)
               (.seq (.region [⟨(.l 92), .build [.int .i64 (0), .nilsl] [], none⟩,
                  ⟨(.l 93), .mv (.p 5), none⟩,
                  ⟨.no, .store 2 (.p 1) (.l 92), none⟩,
                  ⟨(.p 2), .mv (.l 93), none⟩,
                  ⟨(.p 3), .mv (.c (.int .i64 (25))), none⟩])
                (.ret))
               (.skip)))
             (.seq (.seq (.region [⟨(.l 94), .mv (.p 9), none⟩,
                 ⟨(.l 95), .bin .eql (.l 94) (.c (.int .i64 (0))), none⟩])
               (.cond (.l 95)
                (.seq (.region [⟨(.l 96), .build [.int .i64 (0), .nilsl] [], none⟩,
                   ⟨(.l 97), .mv (.p 5), none⟩,
                   ⟨.no, .store 2 (.p 1) (.l 96), none⟩,
                   ⟨(.p 2), .mv (.l 97), none⟩,
                   ⟨(.p 3), .mv (.c (.int .i64 (3))), none⟩])
                 (.ret))
                (.skip)))
              (.seq (.seq (.region [⟨(.l 98), .faddr 1 (.p 4), none⟩,
                  ⟨(.l 99), .load 1 false (.l 98), none⟩,
                  ⟨(.l 100), .len .sl (.l 99), none⟩,
                  ⟨(.l 101), .mv (.p 9), none⟩,
                  ⟨(.l 102), .bin .add (.l 100) (.l 101), none⟩,
                  ⟨(.l 103), .bin .gtr (.l 102) (.c (.int .i64 (4096))), none⟩])
                (.cond (.l 103)
                 (.seq (.region [⟨(.l 104), .build [.int .i64 (0), .nilsl] [], none⟩,
                    ⟨(.l 105), .mv (.p 5), none⟩,
                    ⟨.no, .store 2 (.p 1) (.l 104), none⟩,
                    ⟨(.p 2), .mv (.l 105), none⟩,
                    ⟨(.p 3), .mv (.c (.int .i64 (5))), none⟩])
                  (.ret))
                 (.skip)))
               (.seq (.seq (.region [⟨(.l 106), .mv (.p 5), none⟩,
                   ⟨(.l 107), .bin .eql (.l 106) (.c (.int .i64 (1))), none⟩])
                 (.cond (.l 107)
                  (.region [⟨(.l 108), .mv (.p 11), none⟩,
                    ⟨(.l 109), .len .str (.l 108), none⟩,
                    ⟨(.l 110), .faddr 0 (.p 4), none⟩,
                    ⟨.no, .store 1 (.l 110) (.l 109), none⟩])
                  (.skip)))
                (.seq (.region [⟨(.l 111), .mv (.p 11), none⟩,
                   ⟨(.l 112), .faddr 0 (.p 4), none⟩,
                   ⟨(.l 113), .load 1 false (.l 112), none⟩,
                   ⟨(.l 114), .call (.c (.fn (.func 88) [] [])) [(.l 111), (.l 113)], none⟩,
                   ⟨(.p 13), .mv (.l 114), none⟩])
                 (.seq (.seq (.region [⟨(.l 115), .mv (.p 13), none⟩,
                     ⟨(.l 116), .bin .neq (.l 115) (.c (.int .i64 (0))), none⟩])
                   (.cond (.l 116)
                    (.seq (.region [⟨(.l 117), .build [.int .i64 (0), .nilsl] [], none⟩,
                       ⟨(.l 118), .mv (.p 5), none⟩,
                       ⟨(.l 119), .mv (.p 13), none⟩,
                       ⟨.no, .store 2 (.p 1) (.l 117), none⟩,
                       ⟨(.p 2), .mv (.l 118), none⟩,
                       ⟨(.p 3), .mv (.l 119), none⟩])
                     (.ret))
                    (.skip)))
                  (.seq (.seq (.region [⟨(.p 14), .mv (.c (.int .i64 (0))), none⟩])
                    (.block 8
                     (.loop b22_3)))
                   (.region [⟨(.l 131), .mv (.p 7), none⟩,
                     ⟨(.l 132), .bin .add (.l 131) (.c (.int .i64 (1))), none⟩,
                     ⟨(.p 6), .mv (.l 132), none⟩]))))))))
structure C22 (M : Mach) : Prop where
  ft : M.FT = FT
  c88 : ∀ (s : Str) rows h, s.length < 4611686018427387904 → M.ext 88 [.str s, .int .i64 rows] h = some ⟨.int .i64 (colE rows s), h, []⟩
  c96 : ∀ (s : Str) h, s.length < 1000000 → M.ext 96 [.str s] h = some ⟨intV s, h, []⟩
theorem UnH.rows {hp : Heap} {rows rows' : Int} {cols : List Str} {o : AV} (h : UnH hp rows cols o) : UnH (hp.put 1 (some (.cells [.int .i64 rows', o] 25))) rows' cols o := by
  have hl := h.len
  refine ⟨at_else (by decide) h.h0, at_put (by omega), h.out.put (fun c n e => by have := h.new c n e; omega), h.new, by rw [put_length]; exact hl⟩
theorem t22_W (C : C22 M) (s col : Str) (hcol : col.length < 1000000) (i n E : Nat) (hi : i < 1000000) (hE : E < 1000000) (ok : Bool) (rows : Int) (cols : List Str) (o : AV) (hp : Heap) (hH : UnH hp rows cols o) (hk : cols.length ≤ 4096) (hn : n < 1000000000) (h0 : cols = [] ↔ i = 0) (hr : cols ≠ [] → rows = (cols[0]!).length)
    (a2 a3 a6 a8 a12 a13 a14 : AV) (lo : List (Nat × AV)) (wr : List Nat) {Q : Ex → StW → Prop}
    (hX : errOf (ok && decide (col ≠ [])) n cols.length (rowsOf cols col) col ≠ 0 → ∀ st : StW, st.s.dfs = [] → st.s.hp.at 0 = some (.cells [.int .i64 0, .nilsl] 25) → st.s.pe[1]? = some (.ptr 0 0) → st.s.pe[2]? = some (.int .i64 ((i : Int) + 1)) → st.s.pe[3]? = some (.int .i64 (errOf (ok && decide (col ≠ [])) n cols.length (rowsOf cols col) col)) → Q .ret st)
    (hO : errOf (ok && decide (col ≠ [])) n cols.length (rowsOf cols col) col = 0 → ∀ hp' o' a8 a9 a10 a11 a12 a13 a14 lo wr, UnH hp' (rowsOf cols col) (cols ++ List.replicate n col) o' → Q .normal ⟨⟨peU s a2 a3 (.int .i64 ((i : Int) + 1)) (.int .i64 ((E : Int) + 1)) (.int .i64 E) a8 a9 a10 a11 a12 a13 a14, lo, hp', []⟩, wr⟩) :
    W M t22_4 ⟨⟨peU s a2 a3 (.int .i64 ((i : Int) + 1)) a6 (.int .i64 E) a8 (.int .i64 n) (.bool ok) (.str col) a12 a13 a14, lo, hp, []⟩, wr⟩ Q := by
  have hh0 := hH.h0
  have hh1 := hH.h1
  have hl := hH.len
  have z0 : 0 < hp.length := by omega
  unfold t22_4
  cases ok with
  | false =>
    have e : errOf (false && decide (col ≠ [])) n cols.length (rowsOf cols col) col = 25 := rfl
    rw [e] at hX
    repeat' first | (apply WO.stj (c' := [.int .i64 0, .nilsl]); exact rfl; exact rfl; exact hh0; exact ⟨rfl, Nat.le_refl _, rfl⟩; exact rfl) | apply W.seq | apply SQn | apply W.region | apply WO.nil | apply W.ret | apply SQr | (apply W.condT; exact rfl) | (apply WO.sF; exact rfl) | (apply WO.pkT; exact rfl; exact rfl) | (apply WO.pl; exact rfl; exact rfl) | (apply WO.pp; exact rfl; exact rfl)
    exact hX (by decide) _ rfl (at_put z0) rfl rfl rfl
  | true =>
    by_cases hc : col = []
    · have e : errOf (true && decide (col ≠ [])) n cols.length (rowsOf cols col) col = 25 := by rw [hc]; rfl
      rw [e] at hX
      repeat' first | (apply WO.stj (c' := [.int .i64 0, .nilsl]); exact rfl; exact rfl; exact hh0; exact ⟨rfl, Nat.le_refl _, rfl⟩; exact rfl) | (apply WO.seql; exact rfl; exact rfl; intro _; rotate_left; (intro h; exact absurd hc h)) | apply W.seq | apply SQn | apply W.region | apply WO.nil | apply W.ret | apply SQr | (apply W.condT; exact rfl) | (apply WO.gF; exact rfl) | (apply WO.pkF; exact rfl; exact rfl) | (apply WO.pl; exact rfl; exact rfl) | (apply WO.pp; exact rfl; exact rfl)
      exact hX (by decide) _ rfl (at_put z0) rfl rfl rfl
    · have e : errOf (true && decide (col ≠ [])) n cols.length (rowsOf cols col) col = if n = 0 then 3 else if cols.length + n > 4096 then 5 else colE (rowsOf cols col) col := by
        rw [decide_eq_true hc]; rfl
      rw [e] at hX hO
      by_cases hn0 : n = 0
      · rw [if_pos hn0] at hX
        repeat' first | (apply WO.stj (c' := [.int .i64 0, .nilsl]); exact rfl; exact rfl; exact hh0; exact ⟨rfl, Nat.le_refl _, rfl⟩; exact rfl) | (apply WO.seql; exact rfl; exact rfl; (intro h; exact absurd h hc); intro _) | apply W.seq | apply SQn | apply W.region | apply WO.nil | apply W.ret | apply W.skip | apply SQr | (apply W.condT; exact rfl) | (apply W.condF; exact rfl) | (apply WO.gF; exact rfl) | (apply WO.eql; exact rfl; exact rfl; all_goals first | (intro _; exfalso; omega) | intro _) | (apply WO.pkF; exact rfl; exact rfl) | (apply WO.pl; exact rfl; exact rfl) | (apply WO.pp; exact rfl; exact rfl)
        exact hX (by decide) _ rfl (at_put z0) rfl rfl rfl
      rw [if_neg hn0] at hX hO
      have g88 := fun h rows => C.c88 col rows h (by omega)
      rcases hH.out with ⟨o1, o2⟩ | ⟨c, o1, o2, o3⟩
      · subst o2
        have hi0 : i = 0 := h0.1 o1
        have hrr : rowsOf cols col = col.length := if_pos o1
        have hz : cols.length = 0 := by rw [o1]; rfl
        rw [hrr] at hX hO
        by_cases hb : cols.length + n > 4096
        · rw [if_pos hb] at hX
          repeat' first | (apply WO.ldj; exact rfl; exact hh1; exact rfl) | (apply WO.stj (c' := [.int .i64 0, .nilsl]); exact rfl; exact rfl; exact hh0; exact ⟨rfl, Nat.le_refl _, rfl⟩; exact rfl) | (apply WO.seql; exact rfl; exact rfl; (intro h; exact absurd h hc); intro _) | apply W.seq | apply SQn | apply W.region | apply WO.nil | apply W.ret | apply W.skip | apply SQr | (apply W.condT; exact rfl) | (apply W.condF; exact rfl) | (apply WO.gF; exact rfl) | (apply WO.gtr; exact rfl; exact rfl; all_goals first | (intro _; exfalso; omega) | intro _) | (apply WO.eql; exact rfl; exact rfl; all_goals first | (intro _; exfalso; omega) | intro _) | (apply WO.pkF; exact rfl; exact rfl) | (apply WO.add; exact rfl; exact rfl; omega) | (apply WO.pl; exact rfl; exact rfl) | (apply WO.pp; exact rfl; exact rfl)
          exact hX (by decide) _ rfl (at_put z0) rfl rfl rfl
        rw [if_neg hb] at hX hO
        have hH2 := hH.rows (rows' := (col.length : Int))
        have hh2 := hH2.h1
        have hh20 := hH2.h0
        repeat' first | (apply WO.ldj; exact rfl; exact hh1; exact rfl) | (apply WO.ldj; exact rfl; exact hh2; exact rfl) | (apply WO.stj (c' := [.int .i64 col.length, .nilsl]); exact rfl; exact rfl; exact hh1; exact ⟨rfl, Nat.le_add_left _ _, rfl⟩; exact rfl) | (apply WO.stj (c' := [.int .i64 0, .nilsl]); exact rfl; exact rfl; exact hh20; exact ⟨rfl, Nat.le_refl _, rfl⟩; exact rfl) | (apply WO.seql; exact rfl; exact rfl; (intro h; exact absurd h hc); intro _) | apply W.seq | apply SQn | apply W.region | apply WO.nil | apply W.block | apply W.ret | apply W.skip | apply SQr | (apply W.condT; exact rfl) | (apply W.condF; exact rfl) | (apply WO.gF; exact rfl) | (apply WO.gtr; exact rfl; exact rfl; all_goals first | (intro _; exfalso; omega) | intro _) | (apply WO.eql; exact rfl; exact rfl; all_goals first | (intro _; exfalso; omega) | intro _) | (apply WO.neq; exact rfl; exact rfl; all_goals first | (intro _; exfalso; omega) | intro _) | (apply WO.pkF; exact rfl; exact rfl) | (apply WO.add; exact rfl; exact rfl; omega) | (apply WO.cll; exact rfl; exact rfl; first | exact g88 _ _) | (apply WO.pl; exact rfl; exact rfl) | (apply WO.pp; exact rfl; exact rfl)
        · rename_i g
          exact hX g _ rfl (at_put (by rw [put_length]; exact z0)) rfl rfl rfl
        · rename_i g
          refine loop22_3 s col n _ _ _ _ _ _ _ _ _ _ n 0 cols _ _ _ _ (by omega) (by omega) (by omega) hH2 (fun hp' o' lo wr h => ?_)
          repeat' first | apply SQn | apply W.region | apply WO.nil | apply BQe | (apply WO.add; exact rfl; exact rfl; omega) | (apply WO.pl; exact rfl; exact rfl) | (apply WO.pp; exact rfl; exact rfl)
          exact hO g _ _ _ _ _ _ _ _ _ _ _ h
      · subst o2
        have hi0 : i ≠ 0 := fun h => o1 (h0.2 h)
        have hrr : rowsOf cols col = (cols[0]!).length := if_neg o1
        have hrow := hr o1
        rw [hrr] at hX hO
        by_cases hb : cols.length + n > 4096
        · rw [if_pos hb] at hX
          repeat' first | (apply WO.ldj; exact rfl; exact hh1; exact rfl) | (apply WO.stj (c' := [.int .i64 0, .nilsl]); exact rfl; exact rfl; exact hh0; exact ⟨rfl, Nat.le_refl _, rfl⟩; exact rfl) | (apply WO.seql; exact rfl; exact rfl; (intro h; exact absurd h hc); intro _) | apply W.seq | apply SQn | apply W.region | apply WO.nil | apply W.ret | apply W.skip | apply SQr | (apply W.condT; exact rfl) | (apply W.condF; exact rfl) | (apply WO.gF; exact rfl) | (apply WO.gtr; exact rfl; exact rfl; all_goals first | (intro _; exfalso; omega) | intro _) | (apply WO.eql; exact rfl; exact rfl; all_goals first | (intro _; exfalso; omega) | intro _) | (apply WO.pkF; exact rfl; exact rfl) | (apply WO.add; exact rfl; exact rfl; omega) | (apply WO.pl; exact rfl; exact rfl) | (apply WO.pp; exact rfl; exact rfl)
          exact hX (by decide) _ rfl (at_put z0) rfl rfl rfl
        rw [if_neg hb] at hX hO
        subst hrow
        repeat' first | (apply WO.ldj; exact rfl; exact hh1; exact rfl) | (apply WO.stj (c' := [.int .i64 0, .nilsl]); exact rfl; exact rfl; exact hh0; exact ⟨rfl, Nat.le_refl _, rfl⟩; exact rfl) | (apply WO.seql; exact rfl; exact rfl; (intro h; exact absurd h hc); intro _) | apply W.seq | apply SQn | apply W.region | apply WO.nil | apply W.block | apply W.ret | apply W.skip | apply SQr | (apply W.condT; exact rfl) | (apply W.condF; exact rfl) | (apply WO.gF; exact rfl) | (apply WO.gtr; exact rfl; exact rfl; all_goals first | (intro _; exfalso; omega) | intro _) | (apply WO.eql; exact rfl; exact rfl; all_goals first | (intro _; exfalso; omega) | intro _) | (apply WO.neq; exact rfl; exact rfl; all_goals first | (intro _; exfalso; omega) | intro _) | (apply WO.pkF; exact rfl; exact rfl) | (apply WO.add; exact rfl; exact rfl; omega) | (apply WO.cll; exact rfl; exact rfl; first | exact g88 _ _) | (apply WO.pl; exact rfl; exact rfl) | (apply WO.pp; exact rfl; exact rfl)
        · rename_i g
          exact hX g _ rfl (at_put z0) rfl rfl rfl
        · rename_i g
          refine loop22_3 s col n _ _ _ _ _ _ _ _ _ _ n 0 cols _ _ _ _ (by omega) (by omega) (by omega) hH (fun hp' o' lo wr h => ?_)
          repeat' first | apply SQn | apply W.region | apply WO.nil | apply BQe | (apply WO.add; exact rfl; exact rfl; omega) | (apply WO.pl; exact rfl; exact rfl) | (apply WO.pp; exact rfl; exact rfl)
          exact hO g _ _ _ _ _ _ _ _ _ _ _ h
end Go.Ab.Ch5


/-
  Own work: the reference's Unpack: the whole.
-/
namespace Go.Ab.Ch5
variable {M : Mach} {cap : Option Nat}

theorem splitL_snoc (b : UInt8) : ∀ t : Str, splitL b (t ++ [b]) = splitL b t ++ [[]]
  | [] => by simp [splitL]
  | c :: t => by
    have ih := splitL_snoc b t
    rw [List.cons_append, splitL, splitL, ih]
    by_cases hc : c = b
    · rw [if_pos hc, if_pos hc]; rfl
    · rw [if_neg hc, if_neg hc]
      cases h : splitL b t with
      | nil => exact absurd h (splitL_ne b t)
      | cons x l => rfl
theorem endB_snoc {b : UInt8} {s : Str} (h : endB b s = true) : ∃ t, s = t ++ [b] := by
  rcases List.eq_nil_or_concat s with rfl | ⟨t, c, e⟩
  · simp [endB] at h
  · rw [List.concat_eq_append] at e
    subst e
    simp [endB] at h
    exact ⟨t, by rw [h]⟩
theorem lines_end {b : UInt8} {s : Str} (h : endB b s = true) : splitL b s.dropLast = (splitL b s).dropLast := by
  obtain ⟨t, rfl⟩ := endB_snoc h
  rw [splitL_snoc]
  simp
theorem mem_cnt {b : UInt8} : ∀ {s : Str}, b ∈ s → 0 < cntB b s
  | c :: s, h => by
    rw [cntB]
    rcases List.mem_cons.1 h with rfl | h
    · rw [if_pos rfl]; omega
    · have := mem_cnt h; omega
theorem end_split {b : UInt8} {t : Str} (h : endB b t = true) : ∃ y, (spl1 b t).2 = some y ∧ (y = [] ∨ endB b y = true) ∧ (splitL b t).dropLast = (spl1 b t).1 :: (splitL b y).dropLast := by
  cases hy : (spl1 b t).2 with
  | none =>
    obtain ⟨u, rfl⟩ := endB_snoc h
    have := mem_cnt (b := b) (s := u ++ [b]) (by simp)
    rw [(spl1_none hy).2.2] at this
    omega
  | some y =>
    obtain ⟨h1, h2, _, _⟩ := spl1_some hy
    refine ⟨y, rfl, ?_, ?_⟩
    · cases y with
      | nil => exact .inl rfl
      | cons c y =>
        right
        simp only [endB, decide_eq_true_eq] at h ⊢
        rw [h1] at h
        simpa using h
    · rw [h2]
      cases h3 : splitL b y with
      | nil => exact absurd h3 (splitL_ne b y)
      | cons x l => rfl
theorem ok_eq (x : Str) : ((intOk (lnC x) && !hasB 32 (lnX x)) && decide (lnX x ≠ [])) = lnOk x := by
  unfold lnOk
  cases intOk (lnC x) <;> cases hasB 32 (lnX x) <;> cases decide (lnX x ≠ []) <;> rfl
theorem rows_app {cols : List Str} {x : Str} {n : Nat} (h : 1 ≤ n) : rowsOf cols x = ((cols ++ List.replicate n x)[0]!).length := by
  obtain ⟨m, rfl⟩ : ∃ m, n = m + 1 := ⟨n - 1, by omega⟩
  cases cols with
  | nil => rfl
  | cons a l => rfl
theorem loop22_4 (C : C22 M) (s : Str) (hs : s.length ≤ 4096) {Q : Ex → StW → Prop} : ∀ (r a i : Nat) (rows : Int) (cols : List Str) (o : AV) (hp : Heap) (a2 a3 a7 a8 a9 a10 a11 a12 a13 a14 : AV) (lo : List (Nat × AV)) (wr : List Nat), a + r ≥ s.length → a ≤ s.length → i ≤ a → (s.drop a = [] ∨ endB 10 (s.drop a) = true) → UnH hp rows cols o → cols.length ≤ 4096 → (cols = [] ↔ i = 0) → (cols ≠ [] → rows = (cols[0]!).length) →
    ((unpL cols i (splitL 10 (s.drop a)).dropLast).2.1 ≠ 0 → ∀ st : StW, st.s.dfs = [] → st.s.hp.at 0 = some (.cells [.int .i64 0, .nilsl] 25) → st.s.pe[1]? = some (.ptr 0 0) → st.s.pe[2]? = some (.int .i64 (unpL cols i (splitL 10 (s.drop a)).dropLast).1) → st.s.pe[3]? = some (.int .i64 (unpL cols i (splitL 10 (s.drop a)).dropLast).2.1) → Q .ret st) →
    ((unpL cols i (splitL 10 (s.drop a)).dropLast).2.1 = 0 → ∀ hp' o' rows' a5 a6 a7 a8 a9 a10 a11 a12 a13 a14 lo wr, UnH hp' rows' (unpL cols i (splitL 10 (s.drop a)).dropLast).2.2 o' → ((unpL cols i (splitL 10 (s.drop a)).dropLast).2.2 ≠ [] → rows' = ((unpL cols i (splitL 10 (s.drop a)).dropLast).2.2[0]!).length) → Q (.exit 0) ⟨⟨peU s a2 a3 a5 a6 a7 a8 a9 a10 a11 a12 a13 a14, lo, hp', []⟩, wr⟩) →
    W M (.loop b22_4) ⟨⟨peU s a2 a3 (.int .i64 i) (.int .i64 a) a7 a8 a9 a10 a11 a12 a13 a14, lo, hp, []⟩, wr⟩ Q := by
  intro r
  induction r with
  | zero =>
    intro a i rows cols o hp a2 a3 a7 a8 a9 a10 a11 a12 a13 a14 lo wr h1 h2 hi ht hH hk h0 hr hX hO
    obtain rfl : a = s.length := by omega
    rw [List.drop_length] at hO
    refine W.loop ?_
    unfold b22_4
    repeat' first | apply W.seq | apply SQn | apply W.region | apply WO.nil | apply W.exit | apply SQe | apply LQe | (apply W.condF; exact rfl) | (apply WO.lss; exact rfl; exact rfl; all_goals first | (intro _; exfalso; omega) | intro _) | (apply WO.pl; exact rfl; exact rfl)
    exact hO rfl _ _ _ _ _ _ _ _ _ _ _ _ _ _ _ hH hr
  | succ r ih =>
    intro a i rows cols o hp a2 a3 a7 a8 a9 a10 a11 a12 a13 a14 lo wr h1 h2 hi ht hH hk h0 hr hX hO
    by_cases hl : a = s.length
    · subst hl
      rw [List.drop_length] at hO
      refine W.loop ?_
      unfold b22_4
      repeat' first | apply W.seq | apply SQn | apply W.region | apply WO.nil | apply W.exit | apply SQe | apply LQe | (apply W.condF; exact rfl) | (apply WO.lss; exact rfl; exact rfl; all_goals first | (intro _; exfalso; omega) | intro _) | (apply WO.pl; exact rfl; exact rfl)
      exact hO rfl _ _ _ _ _ _ _ _ _ _ _ _ _ _ _ hH hr
    · have ht : endB 10 (s.drop a) = true := by
        rcases ht with ht | ht
        · have := congrArg List.length ht
          simp at this
          omega
        · exact ht
      obtain ⟨y, hy, hy2, hln⟩ := end_split ht
      obtain ⟨k1, _, _, k4⟩ := spl1_some hy
      generalize hx : (spl1 10 (s.drop a)).1 = x at k1 k4 hln
      have hlen := congrArg List.length k1
      simp only [List.length_drop, List.length_append, List.length_cons] at hlen
      have hdy : s.drop (a + x.length + 1) = y := by
        rw [Nat.add_assoc, ← List.drop_drop, k1, show x ++ 10 :: y = (x ++ [10]) ++ y by simp]
        exact List.drop_left' (by simp)
      have hsx : (s.drop a).take x.length = x := by rw [k1]; simp
      have hE : a + x.length < s.length := by omega
      rw [hln, unpL] at hX hO
      have hC := lnC_len x
      have hXl := lnX_len x
      have q96 := fun h => C.c96 (lnC x) h (by omega)
      rw [intV_eq] at q96
      have hnl := lnN_lt x
      have hok := ok_eq x
      have hst : (errOf ((intOk (lnC x) && !hasB 32 (lnX x)) && decide (lnX x ≠ [])) (lnN x) cols.length (rowsOf cols (lnX x)) (lnX x)) = lineE cols x := by rw [hok]; rfl
      have hnx := ih (a + x.length + 1) (i + 1)
      have hc1 : (s.drop a).take (lnC x).length = lnC x := by
        have e : (lnC x) <+: x := by
          unfold lnC
          cases h : (spl1 32 x).2 with
          | none => rw [(spl1_none h).1]; exact List.prefix_refl _
          | some z => exact ⟨_, (spl1_some h).1.symm⟩
        obtain ⟨z, hz⟩ := e
        rw [k1]
        generalize lnC x = c at hz ⊢
        rw [← hz]
        simp
      have hC' : (spl1 32 x).1.length ≤ x.length := hC
      have hcx : (spl1 32 x).1 = lnC x := rfl
      cases hsp : (spl1 32 x).2 with
      | none =>
        have eX : lnX x = [] := by unfold lnX; rw [hsp]; rfl
        have eC : (spl1 32 x).1.length = x.length := by rw [(spl1_none hsp).1]
        rw [eX] at hst
        have hcol : ([] : Str).length < 1000000 := by first | decide | omega
        refine W.loop ?_
        unfold b22_4
        repeat' first | (refine loop22_0 s y (by omega) _ _ _ _ _ _ _ _ _ _ _ _ x a _ _ k1 k4 (fun lo => ?_)) | (refine loop22_1 s y (by omega) _ _ _ _ _ _ _ _ _ _ _ (a + x.length) hE x a _ _ k1 rfl (fun lo => ?_)) | (apply WO.ssp (r := lnC x); exact rfl; exact rfl; exact rfl; omega; (rw [Int.toNat_natCast, Int.toNat_natCast]; exact (congrArg (fun k => (s.drop a).take k) (Nat.add_sub_cancel_left a _)).trans hc1)) | (refine loop22_2 s ([] : Str) hcol _ _ _ _ _ _ _ _ _ _ ([] : Str).length 0 _ _ _ (Nat.zero_add _) (fun lo => ?_)) | (refine t22_W C s ([] : Str) hcol i (lnN x) (a + x.length) (by omega) (by omega) (intOk (lnC x) && !hasB 32 ([] : Str)) rows cols o hp hH hk (lnN_lt x) h0 hr _ _ _ _ _ _ _ _ _ ?_ ?_) | apply W.seq | apply SQn | apply W.region | apply WO.nil | apply W.block | apply W.skip | apply BQe | (apply W.condT; exact rfl) | (apply W.condF; exact rfl) | (apply WO.lss; exact rfl; exact rfl; all_goals first | (intro _; exfalso; omega) | intro _) | (apply WO.add; exact rfl; exact rfl; omega) | (apply WO.cll; exact rfl; exact rfl; first | exact q96 _) | (apply WO.pl; exact rfl; exact rfl) | (apply WO.pp; exact rfl; exact rfl)
        · rw [hst]
          intro he st g1 g2 g3 g4 g5
          rw [if_pos he] at hX
          apply BQr
          apply LQr
          exact hX he st g1 g2 g3 g4 g5
        · rw [hst]
          intro he hp' o' b8 b9 b10 b11 b12 b13 b14 lo' wr' hH'
          rw [if_neg (by rw [he]; decide)] at hX hO
          apply BQn
          refine LQn ?_
          have hsm := lineE_small he
          rw [eX] at hX hO
          refine hnx _ _ _ _ _ _ _ _ _ _ _ _ _ _ _ _ (by omega) (by omega) (by omega) (by rw [hdy]; exact hy2) hH' (by rw [List.length_append, List.length_replicate]; exact hsm.2) ⟨fun h => ?_, fun h => ?_⟩ (fun _ => ?_) ?_ ?_
          · have := congrArg List.length h
            simp at this
            omega
          · omega
          · exact congrArg Nat.cast (rows_app hsm.1)
          · rw [hdy]; exact hX
          · rw [hdy]; exact hO
      | some z =>
        obtain ⟨m1, _, _, _⟩ := spl1_some hsp
        have eX : lnX x = z := by unfold lnX; rw [hsp]; rfl
        have eC := spl_len hsp
        have hz : (spl1 32 x).1.length = (lnC x).length := rfl
        have hc2 : (s.drop (a + (lnC x).length + 1)).take (a + x.length - (a + (lnC x).length + 1)) = lnX x := by
          rw [eX, show a + x.length - (a + (lnC x).length + 1) = z.length by omega, Nat.add_assoc, ← List.drop_drop, k1]
          have m1' : x = lnC x ++ 32 :: z := m1
          generalize lnC x = c at m1' ⊢
          rw [m1', show (c ++ 32 :: z) ++ 10 :: y = (c ++ [32]) ++ (z ++ 10 :: y) by simp, List.drop_left' (by simp)]
          simp
        have hcol : (lnX x).length < 1000000 := by first | decide | omega
        refine W.loop ?_
        unfold b22_4
        repeat' first | (refine loop22_0 s y (by omega) _ _ _ _ _ _ _ _ _ _ _ _ x a _ _ k1 k4 (fun lo => ?_)) | (refine loop22_1 s y (by omega) _ _ _ _ _ _ _ _ _ _ _ (a + x.length) hE x a _ _ k1 rfl (fun lo => ?_)) | (apply WO.ssp (r := lnC x); exact rfl; exact rfl; exact rfl; omega; (rw [Int.toNat_natCast, Int.toNat_natCast]; exact (congrArg (fun k => (s.drop a).take k) (Nat.add_sub_cancel_left a _)).trans hc1)) | (apply WO.ssp (r := lnX x); exact rfl; exact rfl; exact rfl; omega; (rw [Int.toNat_natCast, show (((a + (spl1 32 x).1.length : Nat) : Int) + 1).toNat = a + (lnC x).length + 1 by omega]; exact hc2)) | (refine loop22_2 s (lnX x) hcol _ _ _ _ _ _ _ _ _ _ (lnX x).length 0 _ _ _ (Nat.zero_add _) (fun lo => ?_)) | (refine t22_W C s (lnX x) hcol i (lnN x) (a + x.length) (by omega) (by omega) (intOk (lnC x) && !hasB 32 (lnX x)) rows cols o hp hH hk (lnN_lt x) h0 hr _ _ _ _ _ _ _ _ _ ?_ ?_) | apply W.seq | apply SQn | apply W.region | apply WO.nil | apply W.block | apply W.skip | apply BQe | (apply W.condT; exact rfl) | (apply WO.lss; exact rfl; exact rfl; all_goals first | (intro _; exfalso; omega) | intro _) | (apply WO.add; exact rfl; exact rfl; omega) | (apply WO.cll; exact rfl; exact rfl; first | exact q96 _) | (apply WO.pl; exact rfl; exact rfl) | (apply WO.pp; exact rfl; exact rfl)
        · rw [hst]
          intro he st g1 g2 g3 g4 g5
          rw [if_pos he] at hX
          apply BQr
          apply LQr
          exact hX he st g1 g2 g3 g4 g5
        · rw [hst]
          intro he hp' o' b8 b9 b10 b11 b12 b13 b14 lo' wr' hH'
          rw [if_neg (by rw [he]; decide)] at hX hO
          apply BQn
          refine LQn ?_
          have hsm := lineE_small he
          refine hnx _ _ _ _ _ _ _ _ _ _ _ _ _ _ _ _ (by omega) (by omega) (by omega) (by rw [hdy]; exact hy2) hH' (by rw [List.length_append, List.length_replicate]; exact hsm.2) ⟨fun h => ?_, fun h => ?_⟩ (fun _ => ?_) ?_ ?_
          · have := congrArg List.length h
            simp at this
            omega
          · omega
          · exact congrArg Nat.cast (rows_app hsm.1)
          · rw [hdy]; exact hX
          · rw [hdy]; exact hO
end Go.Ab.Ch5


/-
  Own work: the reference's Unpack: its run.
-/
namespace Go.Ab.Ch5
variable {M : Mach} {cap : Option Nat}

theorem res3g {e : TypeId} {st : St} {rows line err : Int} {v : AV} (h2 : st.hp.at 0 = some (.cells [.int .i64 rows, v] e)) (h3 : st.pe[1]? = some (.ptr 0 0)) (h4 : st.pe[2]? = some (.int .i64 line)) (h5 : st.pe[3]? = some (.int .i64 err)) : resultsA st [.cell 2 true (.p 1), .var (.p 2), .var (.p 3)] = some [.agg [.int .i64 rows, v], .int .i64 line, .int .i64 err] := by
  simp only [resultsA, St.opd, h3, Option.bind_some, readAt, h2, h4, h5, List.drop]
  rfl
theorem unP_errg {e : TypeId} {s : Str} {line err : Int} {st : StW} (h : unpR s = (0, [], line, err)) (h1 : st.s.dfs = []) (h2 : st.s.hp.at 0 = some (.cells [.int .i64 0, .nilsl] e)) (h3 : st.s.pe[1]? = some (.ptr 0 0)) (h4 : st.s.pe[2]? = some (.int .i64 line)) (h5 : st.s.pe[3]? = some (.int .i64 err)) : unP s .ret st := by
  refine ⟨.inr rfl, st, by rw [h1]; rfl, _, res3g h2 h3 h4 h5, ?_⟩
  rw [retA0]
  refine ⟨.nilsl, ?_, .inl ⟨?_, rfl⟩, rfl⟩
  · rw [h]; rfl
  · rw [h]
theorem w22 (C : C22 M) (s : Str) (hl : s.length < 1000000) : ∃ v hh, OutW hh v (unpR s).2.1 ∧ Run M 22 [.str s] [] ⟨.tup [.agg [.int .i64 (unpR s).1, v], .int .i64 (unpR s).2.2.1, .int .i64 (unpR s).2.2.2], hh, []⟩ := by
  have key : WRun M 22 [.str s] [] (unK s) := by
    refine WRun.of_W (by rw [C.ft]; exact ft22) (by simp) ?_
    unfold b22
    simp only [List.map_cons, List.map_nil, List.getElem?_cons_zero, List.getElem?_cons_succ, List.getElem?_nil, Option.getD_some, Option.getD_none]
    by_cases hb : 4096 < s.length
    · have hR : unpR s = (0, [], 0, 26) := by rw [unpR, if_pos hb]
      repeat' first | (apply WO.stj (c' := [.int .i64 0, .nilsl]); exact rfl; exact rfl; exact rfl; exact ⟨rfl, Nat.le_refl _, rfl⟩; exact rfl) | apply W.seq | apply SQn | apply W.region | apply WO.nil | apply W.ret | apply SQr | (apply W.condT; exact rfl) | (apply WO.gtr; exact rfl; exact rfl; all_goals first | (intro _; exfalso; omega) | intro _) | (apply WO.hpv; exact rfl; exact rfl; exact rfl) | (apply WO.pl; exact rfl; exact rfl) | (apply WO.pp; exact rfl; exact rfl)
      exact unP_errg hR rfl rfl rfl rfl rfl
    cases he : endB 10 s with
    | false =>
      have hR : unpR s = (0, [], 0, 28) := by rw [unpR, if_neg hb, if_pos he]
      rcases List.eq_nil_or_concat s with h0 | ⟨t, c, e⟩
      · have hz : s.length = 0 := by rw [h0]; rfl
        repeat' first | (apply WO.stj (c' := [.int .i64 0, .nilsl]); exact rfl; exact rfl; exact rfl; exact ⟨rfl, Nat.le_refl _, rfl⟩; exact rfl) | apply W.seq | apply SQn | apply W.region | apply WO.nil | apply W.ret | apply W.skip | apply SQr | (apply W.condT; exact rfl) | (apply W.condF; exact rfl) | (apply WO.sF; exact rfl) | (apply WO.gtr; exact rfl; exact rfl; all_goals first | (intro _; exfalso; omega) | intro _) | (apply WO.eql; exact rfl; exact rfl; all_goals first | (intro _; exfalso; omega) | intro _) | (apply WO.pkT; exact rfl; exact rfl) | (apply WO.hpv; exact rfl; exact rfl; exact rfl) | (apply WO.pl; exact rfl; exact rfl) | (apply WO.pp; exact rfl; exact rfl)
        exact unP_errg hR rfl rfl rfl rfl rfl
      · rw [List.concat_eq_append] at e
        have hz : s.length = t.length + 1 := by rw [e]; simp
        have hc : c ≠ 10 := fun h => by rw [e, h] at he; simp [endB] at he
        have hg : s[((s.length : Int) - 1).toNat]! = c := by
          rw [show ((s.length : Int) - 1).toNat = t.length by omega, e, getElem!_pos _ _ (by simp)]
          simp
        have hg2 : (s[((s.length : Int) - 1).toNat]!).toNat ≠ 10 := fun h => hc (by rw [hg] at h; exact UInt8.toNat_inj.1 (h.trans rfl))
        repeat' first | (apply WO.stj (c' := [.int .i64 0, .nilsl]); exact rfl; exact rfl; exact rfl; exact ⟨rfl, Nat.le_refl _, rfl⟩; exact rfl) | apply W.seq | apply SQn | apply W.region | apply WO.nil | apply W.ret | apply W.skip | apply SQr | (apply W.condT; exact rfl) | (apply W.condF; exact rfl) | (apply WO.gF; exact rfl) | (apply WO.gtr; exact rfl; exact rfl; all_goals first | (intro _; exfalso; omega) | intro _) | (apply WO.eql; exact rfl; exact rfl; all_goals first | (intro _; exfalso; omega) | intro _) | (apply WO.neq; exact rfl; exact rfl; all_goals first | (intro _; exfalso; omega) | intro _) | (apply WO.pkF; exact rfl; exact rfl) | (apply WO.sub; exact rfl; exact rfl; omega) | (apply WO.idx; exact rfl; exact rfl; omega) | (apply WO.hpv; exact rfl; exact rfl; exact rfl) | (apply WO.pl; exact rfl; exact rfl) | (apply WO.pp; exact rfl; exact rfl)
        exact unP_errg hR rfl rfl rfl rfl rfl
    | true =>
      obtain ⟨t, e⟩ := endB_snoc he
      have hz : s.length = t.length + 1 := by rw [e]; simp
      have hg : s[((s.length : Int) - 1).toNat]! = 10 := by
        rw [show ((s.length : Int) - 1).toNat = t.length by omega, e, getElem!_pos _ _ (by simp)]
        simp
      have hg2 : (s[((s.length : Int) - 1).toNat]!).toNat = 10 := by rw [hg]; rfl
      have hR : unpR s = if (unpC s).2.1 ≠ 0 then (0, [], (unpC s).1, (unpC s).2.1) else if 64 < ((unpC s).2.2[0]!).length then ((0 : Int), [], (0 : Int), (3 : Int)) else ((((unpC s).2.2[0]!).length : Int), (unpC s).2.2, (0 : Int), (0 : Int)) := by
        rw [unpR, if_neg hb, if_neg (by rw [he]; simp)]
      have hU : unpC s = unpL [] 0 (splitL 10 (s.drop 0)).dropLast := by rw [unpC, lines_end he, List.drop_zero]
      have hne : (unpC s).2.1 = 0 → (unpC s).2.2 ≠ [] := fun h => unpL_ne _ _ _ h (.inr (splitL_ne 10 s.dropLast))
      rw [hU] at hR hne
      repeat' first | apply W.seq | apply SQn | apply W.region | apply WO.nil | apply W.block | apply W.skip | (apply W.condF; exact rfl) | (apply WO.gF; exact rfl) | (apply WO.gtr; exact rfl; exact rfl; all_goals first | (intro _; exfalso; omega) | intro _) | (apply WO.eql; exact rfl; exact rfl; all_goals first | (intro _; exfalso; omega) | intro _) | (apply WO.neq; exact rfl; exact rfl; all_goals first | (intro _; exfalso; omega) | intro _) | (apply WO.pkF; exact rfl; exact rfl) | (apply WO.sub; exact rfl; exact rfl; omega) | (apply WO.idx; exact rfl; exact rfl; omega) | (apply WO.hpv; exact rfl; exact rfl; exact rfl) | (apply WO.pl; exact rfl; exact rfl) | (apply WO.pp; exact rfl; exact rfl)
      refine loop22_4 C s (by omega) s.length 0 0 0 [] .nilsl _ _ _ _ _ _ _ _ _ _ _ _ _ (by omega) (by omega) (by omega) (.inr (by rw [List.drop_zero]; exact he)) ⟨rfl, rfl, .inl ⟨rfl, rfl⟩, (fun c n h => by cases h), Nat.le_refl 2⟩ (Nat.zero_le _) ⟨fun _ => rfl, fun _ => rfl⟩ (fun h => absurd rfl h) (fun h0 st h1 h2 h3 h4 h5 => ?_) (fun h0 hp' o' rows' a5 a6 a7 a8 a9 a10 a11 a12 a13 a14 lo wr hH hr => ?_)
      · rw [if_pos h0] at hR
        apply BQr
        apply SQr
        exact unP_errg hR h1 h2 h3 h4 h5
      · rw [if_neg (by rw [h0]; decide)] at hR
        have hne := hne h0
        have hr := hr hne
        generalize (unpL [] 0 (splitL 10 (s.drop 0)).dropLast).2.2 = cols at hR hne hr hH
        subst hr
        have k0 := hH.h0
        have k1 := hH.h1
        have hl2 := hH.len
        have z0 : 0 < hp'.length := by omega
        rcases hH.out with ⟨o1, _⟩ | ⟨c, o1, o2, o3⟩
        · exact absurd o1 hne
        subst o2
        have hcn := hH.new c _ rfl
        by_cases h64 : 64 < (cols[0]!).length
        · rw [if_pos h64] at hR
          repeat' first | (apply WO.ldj; exact rfl; exact k1; exact rfl) | (apply WO.stj (c' := [.int .i64 0, .nilsl]); exact rfl; exact rfl; exact k0; exact ⟨rfl, Nat.le_refl _, rfl⟩; exact rfl) | apply W.seq | apply SQn | apply W.region | apply WO.nil | apply W.ret | apply SQr | apply BQe | (apply W.condT; exact rfl) | (apply WO.gtr; exact rfl; exact rfl; all_goals first | (intro _; exfalso; omega) | intro _) | (apply WO.pl; exact rfl; exact rfl) | (apply WO.pp; exact rfl; exact rfl)
          exact unP_errg hR rfl (at_put z0) rfl rfl rfl
        · rw [if_neg h64] at hR
          repeat' first | (apply WO.ldj; exact rfl; exact k1; exact rfl) | (apply WO.stj (c' := [.int .i64 (cols[0]!).length, .sl c 0 cols.length 1 none]); exact rfl; exact rfl; exact k0; exact ⟨rfl, Nat.le_refl _, rfl⟩; exact rfl) | apply W.seq | apply SQn | apply W.region | apply WO.nil | apply W.ret | apply W.skip | apply BQe | (apply W.condF; exact rfl) | (apply WO.gtr; exact rfl; exact rfl; all_goals first | (intro _; exfalso; omega) | intro _) | (apply WO.pl; exact rfl; exact rfl) | (apply WO.pp; exact rfl; exact rfl)
          refine ⟨.inr rfl, _, rfl, _, res3g (at_put z0) rfl rfl rfl, ?_⟩
          rw [show ([] : Heap).length = 0 from rfl, retA0, if_neg (by simp [tupA, AV.top, topL])]
          refine ⟨.sl c 0 cols.length 1 none, ?_, ?_, rfl⟩
          · rw [hR]; rfl
          · rw [hR]
            exact .inr ⟨c, hne, rfl, at_else (by omega) o3⟩
  obtain ⟨r, hr, v, h1, h2, h3⟩ := key
  obtain ⟨rv, rh, rwr⟩ := r
  obtain rfl : rv = _ := h1
  obtain rfl : rwr = [] := h3
  exact ⟨v, rh, h2, hr⟩
end Go.Ab.Ch5


/-
  Own work: the law FinishTexts.
-/
namespace Go.Ab.Ch5
variable {M : Mach}

theorem unpR_image (s : Str) : imageB (unpR s).1 (unpR s).2.1 (unpR s).1 (unpR s).2.1 (unpR s).2.2.2 (unpR s).2.2.2 = true := by
  have h : (unpR s).2.2.2 ≠ 0 → (unpR s).1 = 0 ∧ (unpR s).2.1 = [] := by
    intro h
    unfold unpR at h ⊢
    split
    · exact ⟨rfl, rfl⟩
    · rename_i h1
      rw [if_neg h1] at h
      split
      · exact ⟨rfl, rfl⟩
      · rename_i h2
        rw [if_neg h2] at h
        split
        · exact ⟨rfl, rfl⟩
        · rename_i h3
          rw [if_neg h3] at h
          split
          · exact ⟨rfl, rfl⟩
          · rename_i h4
            rw [if_neg h4] at h
            exact absurd rfl h
  unfold imageB
  by_cases he : (unpR s).2.2.2 = 0
  · rw [he]; simp
  · obtain ⟨h1, h2⟩ := h he
    rw [if_pos he, h1, h2]; simp
theorem unpR_len (s : Str) : (unpR s).2.1.length ≤ 4096 := by
  unfold unpR
  split
  · simp
  · split
    · simp
    · split
      · simp
      · split
        · simp
        · exact unpL_cols _ _ _ (Nat.zero_le _)
/-- What FinishTexts calls. -/
structure Calls3 (M : Mach) : Prop where
  c15 : ∀ h, M.ext 15 [] h = some ⟨.bool true, h, []⟩
  c16 : ∀ rows (l : List Str) cap h, M.ext 16 [.agg [.int .i64 rows, .vs (strs l) l.length cap]] h = some ⟨.bool (shortB l), h, []⟩
  c17 : ∀ rows (l : List Str) cap h, (∀ s ∈ l, s.length < 4611686018427387904) → l.length < 1000000 → (imgE rows l = 0 → l.length < 400) → M.ext 17 [.agg [.int .i64 rows, .vs (strs l) l.length cap]] h = some ⟨.tup [.str (packR rows l).1, .int .i64 (packR rows l).2], h, []⟩
  c18 : ∀ rows (l : List Str) cap h, (∀ s ∈ l, s.length < 4611686018427387904) → l.length < 1000000 → M.ext 18 [.agg [.int .i64 rows, .vs (strs l) l.length cap]] h = some ⟨.int .i64 (imgE rows l), h, []⟩
  c19 : ∀ rows (l : List Str) cap h, (∀ s ∈ l, s.length < 100000) → l.length < 100000 → M.ext 19 [.agg [.int .i64 rows, .vs (strs l) l.length cap]] h = some ⟨.str (packL l), h, []⟩
  c20 : ∀ t e h, M.ext 20 [.bool t, .int .i64 e] h = some ⟨.int .i64 (if t then e else 0), h, []⟩
  c21e : ∀ (s : Str) h, s.length < 1000000 → (unpR s).2.1 = [] → M.ext 21 [.str s] h = some ⟨.tup [.agg [.int .i64 (unpR s).1, .nilsl], .int .i64 (unpR s).2.2.1, .int .i64 (unpR s).2.2.2], h, []⟩
  c21s : ∀ (s : Str) h, s.length < 1000000 → (unpR s).2.1 ≠ [] → M.ext 21 [.str s] h = some ⟨.tup [.agg [.int .i64 (unpR s).1, .sl h.length 0 (unpR s).2.1.length 1 none], .int .i64 (unpR s).2.2.1, .int .i64 (unpR s).2.2.2], h ++ [some (.cells (strs (unpR s).2.1) 9)], []⟩
  c22e : ∀ (s : Str) h, s.length < 1000000 → (unpR s).2.1 = [] → M.ext 22 [.str s] h = some ⟨.tup [.agg [.int .i64 (unpR s).1, .nilsl], .int .i64 (unpR s).2.2.1, .int .i64 (unpR s).2.2.2], h, []⟩
  c22s : ∀ (s : Str) h, s.length < 1000000 → (unpR s).2.1 ≠ [] → M.ext 22 [.str s] h = some ⟨.tup [.agg [.int .i64 (unpR s).1, .sl h.length 0 (unpR s).2.1.length 1 none], .int .i64 (unpR s).2.2.1, .int .i64 (unpR s).2.2.2], h ++ [some (.cells (strs (unpR s).2.1) 9)], []⟩
  c23 : ∀ r r' x y l m (e bad : Int) h, strsAt h x = some l → strsAt h y = some m → l.length < 4611686018427387904 → M.ext 23 [.agg [.int .i64 r, x], .int .i64 e, .int .i64 bad, .agg [.int .i64 r', y]] h = some ⟨.bool (imageB r l r' m e bad), h, []⟩
def t3 : ICode :=
   (.seq (.region [⟨(.l 70), .mv (.p 1), none⟩,
            ⟨(.l 71), .call (.c (.fn (.func 21) [] [])) [(.l 70)], none⟩,
            ⟨(.l 69), .mv (.l 71), none⟩,
            ⟨(.l 72), .extract 0 (.l 69), none⟩,
            ⟨(.l 73), .extract 1 (.l 69), none⟩,
            ⟨(.l 74), .extract 2 (.l 69), none⟩,
            ⟨(.p 9), .alloc 24 [.int .i64 (0), .nilsl], none⟩,
            ⟨.no, .store 2 (.p 9) (.l 72), none⟩,
            ⟨(.p 10), .mv (.l 73), none⟩,
            ⟨(.p 11), .mv (.l 74), none⟩])
          (.seq (.region [⟨(.l 76), .mv (.p 1), none⟩,
             ⟨(.l 77), .call (.c (.fn (.func 22) [] [])) [(.l 76)], none⟩,
             ⟨(.l 75), .mv (.l 77), none⟩,
             ⟨(.l 78), .extract 0 (.l 75), none⟩,
             ⟨(.l 79), .extract 1 (.l 75), none⟩,
             ⟨(.l 80), .extract 2 (.l 75), none⟩,
             ⟨(.p 12), .alloc 25 [.int .i64 (0), .nilsl], none⟩,
             ⟨.no, .store 2 (.p 12) (.l 78), none⟩,
             ⟨(.p 13), .mv (.l 79), none⟩,
             ⟨(.p 14), .mv (.l 80), none⟩])
           (.seq (.region [⟨(.l 81), .mv (.p 10), none⟩,
              ⟨(.l 82), .mv (.p 13), none⟩,
              ⟨(.l 83), .bin .eql (.l 81) (.l 82), none⟩,
              ⟨(.l 84), .mv (.l 83), none⟩,
              ⟨(.l 85), .load 2 true (.p 9), some ((.l 84), true)⟩,
              ⟨(.l 86), .mv (.p 11), some ((.l 84), true)⟩,
              ⟨(.l 87), .mv (.p 14), some ((.l 84), true)⟩,
              ⟨(.l 88), .load 2 true (.p 12), some ((.l 84), true)⟩,
              ⟨(.l 89), .call (.c (.fn (.func 23) [] [])) [(.l 85), (.l 86), (.l 87), (.l 88)], some ((.l 84), true)⟩,
              ⟨(.l 90), .pick (.l 84) (.l 89) (.c (.bool false)), none⟩,
              ⟨(.p 3), .mv (.l 90), none⟩])
            (.ret))))
abbrev Ends3 (e : Ex) (s : StW) : Prop := (e = .normal ∨ e = .ret) ∧ s.s.dfs = [] ∧ ∃ vs, resultsA s.s [.var (.p 3)] = some vs ∧ tupA vs = .bool true ∧ (if (AV.bool true).top ≤ 0 then [] else s.s.hp) = []
theorem ends3 {s : StW} (h1 : s.s.dfs = []) (h2 : s.s.pe[3]? = some (.bool true)) : Ends3 .ret s :=
  ⟨.inr rfl, h1, [.bool true], by simp only [resultsA, St.opd, h2], rfl, rfl⟩
theorem t3_W (C : Calls3 M) (s : Str) (hs : s.length ≤ 4200) (B0 B1 : Option Blk) (a0 a2 a3 a4 a5 a6 a7 a8 a9 a10 a11 a12 a13 a14 : AV) (lo : List (Nat × AV)) (wr : List Nat) :
    W M t3 ⟨⟨[a0, .str s, a2, a3, a4, a5, a6, a7, a8, a9, a10, a11, a12, a13, a14], lo, [B0, B1], []⟩, wr⟩ Ends3 := by
  have hI := unpR_image s
  unfold t3
  by_cases hN : (unpR s).2.1 = []
  · have q21 := fun h => C.c21e s h (by omega) hN
    have q22 := fun h => C.c22e s h (by omega) hN
    rw [hN] at hI
    have q23 : ∀ h, M.ext 23 [.agg [.int .i64 (unpR s).1, .nilsl], .int .i64 (unpR s).2.2.2, .int .i64 (unpR s).2.2.2, .agg [.int .i64 (unpR s).1, .nilsl]] h = some ⟨.bool true, h, []⟩ := fun h => by
      rw [C.c23 _ _ _ _ [] [] _ _ h strsAt_nil strsAt_nil (by simp), hI]
    repeat' first | apply W.seq | apply SQn | apply W.region | apply WO.nil | apply W.ret | (apply WO.gT; exact rfl) | (apply WO.eql; exact rfl; exact rfl; all_goals first | (intro _; exfalso; omega) | intro _) | (apply WO.pkT; exact rfl; exact rfl) | (apply WO.cll; exact rfl; exact rfl; first | exact q21 _ | exact q22 _ | exact q23 _) | (apply WO.hlv; exact rfl; exact rfl; exact rfl) | (apply WO.hpv; exact rfl; exact rfl; exact rfl) | (apply WO.hnv; exact rfl; exact rfl; exact rfl) | (apply WO.pl; exact rfl; exact rfl) | (apply WO.pp; exact rfl; exact rfl)
    exact ends3 rfl rfl
  · have q21 := fun h => C.c21s s h (by omega) hN
    have q22 := fun h => C.c22s s h (by omega) hN
    have q23 : ∀ v w h, strsAt h v = some (unpR s).2.1 → strsAt h w = some (unpR s).2.1 → M.ext 23 [.agg [.int .i64 (unpR s).1, v], .int .i64 (unpR s).2.2.2, .int .i64 (unpR s).2.2.2, .agg [.int .i64 (unpR s).1, w]] h = some ⟨.bool true, h, []⟩ := fun v w h h1 h2 => by
      have := (C.c23 (unpR s).1 (unpR s).1 v w _ _ (unpR s).2.2.2 (unpR s).2.2.2 h h1 h2 ?_)
      · rw [this, hI]
      · have := unpR_len s
        omega
    repeat' first | apply W.seq | apply SQn | apply W.region | apply WO.nil | apply W.ret | (apply WO.gT; exact rfl) | (apply WO.eql; exact rfl; exact rfl; all_goals first | (intro _; exfalso; omega) | intro _) | (apply WO.pkT; exact rfl; exact rfl) | (apply WO.cll; exact rfl; exact rfl; first | exact q21 _ | exact q22 _) | (apply WO.cll; exact rfl; exact rfl; exact q23 _ _ _ (strs_at rfl rfl) (strs_at rfl rfl)) | (apply WO.hlv; exact rfl; exact rfl; exact rfl) | (apply WO.hpv; exact rfl; exact rfl; exact rfl) | (apply WO.hnv; exact rfl; exact rfl; exact rfl) | (apply WO.pl; exact rfl; exact rfl) | (apply WO.pp; exact rfl; exact rfl)
    exact ends3 rfl rfl
theorem short_img {l : List Str} (h : shortB l = true) (h2 : l.length ≤ 4096) : l.length < 400 := by
  unfold shortB at h
  split at h
  · cases h
  · omega
theorem w3 (hft : M.FT = FT) (C : Calls3 M) (rows : Int) (l : List Str) (s : Str) : Run M 3 [.agg [.int .i64 rows, .vs (strs l) l.length none], .str s] [] ⟨.bool true, [], []⟩ := by
  have q16 := fun h => C.c16 rows l none h
  refine run_of_W (by rw [hft]; exact ft3) (by simp) ?_
  unfold b3
  simp only [List.map_cons, List.map_nil, List.getElem?_cons_zero, List.getElem?_cons_succ, List.getElem?_nil, Option.getD_some, Option.getD_none]
  by_cases h0 : shortB l = true ∧ s.length ≤ 4200
  · obtain ⟨hsh, hs9⟩ := h0
    rw [hsh] at q16
    obtain ⟨hl, hL⟩ := short_len hsh
    have q18 := fun h => C.c18 rows l none h hL hl
    have q17 := fun h => C.c17 rows l none h hL hl (fun hE => short_img hsh (imgE_small hE))
    by_cases hE : imgE rows l = 0
    · rw [hE] at q18
      have q19 := fun h => C.c19 rows l none h (fun s hs => by have := (imgE_all hE).2 s hs; have := (imgE_all hE).1; omega) (by have := imgE_small hE; omega)
      by_cases hb : 4096 < (packL l).length
      · have e : packR rows l = ([], 26) := by rw [packR, if_neg (fun h => h hE), if_pos hb]
        rw [e] at q17
        simp only at q17
        repeat' first | (exact t3_W C s hs9 _ _ _ _ _ _ _ _ _ _ _ _ _ _ _ _ _ _) | apply W.seq | apply SQn | apply W.region | apply WO.nil | apply W.skip | (apply W.condT; exact rfl) | (apply W.condF; exact rfl) | (apply WO.gT; exact rfl) | (apply WO.gF; exact rfl) | (apply WO.sT; exact rfl) | (apply WO.sU; exact rfl) | (apply WO.gtr; exact rfl; exact rfl; all_goals first | (intro _; exfalso; omega) | intro _) | (apply WO.eql; exact rfl; exact rfl; all_goals first | (intro _; exfalso; omega) | intro _) | (apply WO.neq; exact rfl; exact rfl; all_goals first | (intro _; exfalso; omega) | intro _) | (apply WO.pkT; exact rfl; exact rfl) | (apply WO.pkF; exact rfl; exact rfl) | (apply WO.cll; exact rfl; exact rfl; first | exact C.c15 _ | exact q16 _ | exact q17 _ | exact q18 _ | exact q19 _) | (apply WO.cll; exact rfl; exact rfl; first | exact C.c20 _ _ _) | (apply WO.sneq; exact rfl; exact rfl; all_goals first | (intro h; exact absurd h (by decide)) | (intro h; exact absurd rfl h) | (intro h; contradiction) | intro _) | (apply WO.hlv; exact rfl; exact rfl; exact rfl) | (apply WO.hpv; exact rfl; exact rfl; exact rfl) | (apply WO.hnv; exact rfl; exact rfl; exact rfl) | (apply WO.pl; exact rfl; exact rfl) | (apply WO.pp; exact rfl; exact rfl)
      · have e : packR rows l = (packL l, 0) := by rw [packR, if_neg (fun h => h hE), if_neg hb]
        rw [e] at q17
        simp only at q17
        repeat' first | (exact t3_W C s hs9 _ _ _ _ _ _ _ _ _ _ _ _ _ _ _ _ _ _) | apply W.seq | apply SQn | apply W.region | apply WO.nil | apply W.skip | (apply W.condT; exact rfl) | (apply W.condF; exact rfl) | (apply WO.gT; exact rfl) | (apply WO.gF; exact rfl) | (apply WO.sT; exact rfl) | (apply WO.sU; exact rfl) | (apply WO.gtr; exact rfl; exact rfl; all_goals first | (intro _; exfalso; omega) | intro _) | (apply WO.eql; exact rfl; exact rfl; all_goals first | (intro _; exfalso; omega) | intro _) | (apply WO.neq; exact rfl; exact rfl; all_goals first | (intro _; exfalso; omega) | intro _) | (apply WO.pkT; exact rfl; exact rfl) | (apply WO.pkF; exact rfl; exact rfl) | (apply WO.cll; exact rfl; exact rfl; first | exact C.c15 _ | exact q16 _ | exact q17 _ | exact q18 _ | exact q19 _) | (apply WO.cll; exact rfl; exact rfl; first | exact C.c20 _ _ _) | (apply WO.sneq; exact rfl; exact rfl; all_goals first | (intro h; exact absurd h (by decide)) | (intro h; exact absurd rfl h) | (intro h; contradiction) | intro _) | (apply WO.hlv; exact rfl; exact rfl; exact rfl) | (apply WO.hpv; exact rfl; exact rfl; exact rfl) | (apply WO.hnv; exact rfl; exact rfl; exact rfl) | (apply WO.pl; exact rfl; exact rfl) | (apply WO.pp; exact rfl; exact rfl)
    · have e : packR rows l = ([], imgE rows l) := by rw [packR, if_pos hE]
      rw [e] at q17
      simp only at q17
      generalize imgE rows l = E at *
      repeat' first | (exact t3_W C s hs9 _ _ _ _ _ _ _ _ _ _ _ _ _ _ _ _ _ _) | apply W.seq | apply SQn | apply W.region | apply WO.nil | apply W.skip | (apply W.condF; exact rfl) | (apply WO.gT; exact rfl) | (apply WO.gF; exact rfl) | (apply WO.sT; exact rfl) | (apply WO.sU; exact rfl) | (apply WO.gtr; exact rfl; exact rfl; all_goals first | (intro _; exfalso; omega) | intro _) | (apply WO.eql; exact rfl; exact rfl; all_goals first | (intro _; exfalso; omega) | intro _) | (apply WO.neq; exact rfl; exact rfl; all_goals first | (intro _; exfalso; omega) | intro _) | (apply WO.pkT; exact rfl; exact rfl) | (apply WO.pkF; exact rfl; exact rfl) | (apply WO.cll; exact rfl; exact rfl; first | exact C.c15 _ | exact q16 _ | exact q17 _ | exact q18 _) | (apply WO.sneq; exact rfl; exact rfl; all_goals first | (intro h; exact absurd h (by decide)) | (intro h; exact absurd rfl h) | (intro h; contradiction) | intro _) | (apply WO.hlv; exact rfl; exact rfl; exact rfl) | (apply WO.hpv; exact rfl; exact rfl; exact rfl) | (apply WO.hnv; exact rfl; exact rfl; exact rfl) | (apply WO.pl; exact rfl; exact rfl) | (apply WO.pp; exact rfl; exact rfl)
  · cases hsh : shortB l
    · rw [hsh] at q16
      repeat' first | apply W.seq | apply SQn | apply W.region | apply WO.nil | apply W.ret | apply SQr | (apply W.condT; exact rfl) | (apply WO.gF; exact rfl) | (apply WO.sF; exact rfl) | (apply WO.pkT; exact rfl; exact rfl) | (apply WO.pkF; exact rfl; exact rfl) | (apply WO.cll; exact rfl; exact rfl; first | exact C.c15 _ | exact q16 _) | (apply WO.hlv; exact rfl; exact rfl; exact rfl) | (apply WO.hpv; exact rfl; exact rfl; exact rfl) | (apply WO.hnv; exact rfl; exact rfl; exact rfl) | (apply WO.pl; exact rfl; exact rfl) | (apply WO.pp; exact rfl; exact rfl)
      all_goals exact ends3 rfl rfl
    · rw [hsh] at q16
      have hs9 : ¬ s.length ≤ 4200 := fun h => h0 ⟨hsh, h⟩
      repeat' first | apply W.seq | apply SQn | apply W.region | apply WO.nil | apply W.ret | apply SQr | (apply W.condT; exact rfl) | (apply WO.gF; exact rfl) | (apply WO.gtr; exact rfl; exact rfl; all_goals first | (intro _; exfalso; omega) | intro _) | (apply WO.pkF; exact rfl; exact rfl) | (apply WO.cll; exact rfl; exact rfl; first | exact C.c15 _ | exact q16 _) | (apply WO.hlv; exact rfl; exact rfl; exact rfl) | (apply WO.hpv; exact rfl; exact rfl; exact rfl) | (apply WO.hnv; exact rfl; exact rfl; exact rfl) | (apply WO.pl; exact rfl; exact rfl) | (apply WO.pp; exact rfl; exact rfl)
      all_goals exact ends3 rfl rfl
end Go.Ab.Ch5


/-
  Own work: strconv.Itoa of small numbers, by evaluation.
-/
namespace Go.Ab.Ch5
set_option maxRecDepth 1000000
open Go.Proofs
noncomputable def itoaRun (n : Nat) : Option HR := callFT (evalC (mach Tryz.prog FT []).ext (mach Tryz.prog FT []).inv FT 1000) FT 84 [.int .i64 n] []
noncomputable def chk (n : Nat) : Bool := match itoaRun n with
  | some ⟨.str t, [], []⟩ => t == decD n
  | _ => false
theorem chk_run {n : Nat} (h : chk n = true) : Run (mach Tryz.prog FT []) 84 [.int .i64 n] [] ⟨.str (decD n), [], []⟩ := by
  unfold chk at h
  split at h
  · rename_i t e
    rw [beq_iff_eq] at h
    subst h
    exact ⟨1000, e⟩
  · cases h
noncomputable def chks (k : Nat) : Bool := (List.range 50).all fun i => chk (50 * k + i)
theorem it0 : chks 0 = true := by kernel_rfl
theorem it1 : chks 1 = true := by kernel_rfl
theorem it2 : chks 2 = true := by kernel_rfl
theorem it3 : chks 3 = true := by kernel_rfl
theorem it4 : chks 4 = true := by kernel_rfl
theorem it5 : chks 5 = true := by kernel_rfl
theorem it6 : chks 6 = true := by kernel_rfl
theorem it7 : chks 7 = true := by kernel_rfl
theorem chks_mem {k n : Nat} (h : chks k = true) (h1 : 50 * k ≤ n) (h2 : n < 50 * k + 50) : chk n = true := by
  have := List.all_eq_true.1 h (n - 50 * k) (by simp; omega)
  rw [show 50 * k + (n - 50 * k) = n by omega] at this
  exact this
theorem chk_all {n : Nat} (h : n < 400) : chk n = true := by
  by_cases h1 : n < 50
  · exact chks_mem it0 (by omega) (by omega)
  by_cases h2 : n < 100
  · exact chks_mem it1 (by omega) (by omega)
  by_cases h3 : n < 150
  · exact chks_mem it2 (by omega) (by omega)
  by_cases h4 : n < 200
  · exact chks_mem it3 (by omega) (by omega)
  by_cases h5 : n < 250
  · exact chks_mem it4 (by omega) (by omega)
  by_cases h6 : n < 300
  · exact chks_mem it5 (by omega) (by omega)
  by_cases h7 : n < 350
  · exact chks_mem it6 (by omega) (by omega)
  · exact chks_mem it7 (by omega) (by omega)
end Go.Ab.Ch5


/-
  Own work: the contracts of FinishTexts as a table.
-/
namespace Go.Ab.Ch5
open Go.Proofs

/-! Functions of texts. -/
def specS (f : Str → AV) (B : Nat) : Spec := fun
  | [.str s], h => if s.length < B then some ⟨f s, h, []⟩ else none
  | _, _ => none
theorem specS_ok {g B : Nat} {f : Str → AV} {T : List (Nat × Spec)} (hT : ExtOK Tryz.prog gl (extS T)) (ht : ∀ s, (f s).top = 0) (hr : ∀ s : Str, s.length < B → Run (mach Tryz.prog FT T) g [.str s] [] ⟨f s, [], []⟩) : SpecOK Tryz.prog gl g (specS f B) := by
  intro xs h r hq
  unfold specS at hq
  split at hq
  · split at hq
    · rename_i hl
      cases hq
      exact ent_run0 seat hT (hr _ hl) (FrL.same rfl) (ht _) (.inl rfl)
    · cases hq
  · cases hq
def specSB (f : Str → UInt8 → AV) (B : Nat) : Spec := fun
  | [.str s, .str [b]], h => if s.length < B then some ⟨f s b, h, []⟩ else none
  | _, _ => none
theorem specSB_ok {g B : Nat} {f : Str → UInt8 → AV} {T : List (Nat × Spec)} (hT : ExtOK Tryz.prog gl (extS T)) (ht : ∀ s b, (f s b).top = 0) (hr : ∀ (s : Str) b, s.length < B → Run (mach Tryz.prog FT T) g [.str s, .str [b]] [] ⟨f s b, [], []⟩) : SpecOK Tryz.prog gl g (specSB f B) := by
  intro xs h r hq
  unfold specSB at hq
  split at hq
  · split at hq
    · rename_i hl
      cases hq
      exact ent_run0 seat hT (hr _ _ hl) (FrL.same rfl) (ht _ _) (.inl rfl)
    · cases hq
  · cases hq
theorem specS_eq {f : Str → AV} {B : Nat} {s : Str} (h : Heap) (hl : s.length < B) : specS f B [.str s] h = some ⟨f s, h, []⟩ := by
  simp only [specS, if_pos hl]
theorem specSB_eq {f : Str → UInt8 → AV} {B : Nat} {s : Str} {b : UInt8} (h : Heap) (hl : s.length < B) : specSB f B [.str s, .str [b]] h = some ⟨f s b, h, []⟩ := by
  simp only [specSB, if_pos hl]
def TU : List (Nat × Spec) := [(336, specX .index), (282, specX .count)]
theorem TU_ok : ExtOK Tryz.prog gl (extS TU) := tab_cons (specX_ok x336) (tab_cons (specX_ok x282) tab_nil)
theorem cu : CU (mach Tryz.prog FT TU) where
  ft := mach_ft
  n213 _ _ := rfl
  n270 _ _ := rfl
  n316 _ _ := rfl
  c336 _ _ _ := by rw [mach_ext]; rfl
  n159 _ _ := rfl
  n164 _ _ := rfl
  n210 _ _ := rfl
  n163 _ _ := rfl
  n215 _ _ := rfl
  c282 _ _ _ := by rw [mach_ext]; rfl
def fSuf (s : Str) (b : UInt8) : AV := .bool (endB b s)
theorem suf92 : SpecOK Tryz.prog gl 92 (specSB fSuf 1000000) := specSB_ok TU_ok (fun _ _ => rfl) fun s b hl => w92 cu s b hl
def fTrimSuf (s : Str) (b : UInt8) : AV := .str (if endB b s then s.dropLast else s)
theorem trimSuf95 : SpecOK Tryz.prog gl 95 (specSB fTrimSuf 1000000) := specSB_ok TU_ok (fun _ _ => rfl) fun s b hl => w95 cu s b hl
def fCut (s : Str) (b : UInt8) : AV := cutV b s
theorem cut160 : SpecOK Tryz.prog gl 160 (specSB fCut 1000000) := specSB_ok TU_ok (fun _ _ => rfl) fun s b hl => w160 cu s b hl
def specSplit : Spec := fun
  | [.str s, .str [b]], h => if s.length < 500000 then some ⟨.sl h.length 0 (splitL b s).length 1 (some (splitL b s).length), h ++ [some (.cells (strs (splitL b s)) 9)], []⟩ else none
  | _, _ => none
theorem split94 : SpecOK Tryz.prog gl 94 specSplit := by
  intro xs h r hq
  unfold specSplit at hq
  split at hq
  · split at hq
    · rename_i hl
      cases hq
      exact ent_run1 seat TU_ok (w94 cu _ _ hl) (FrL.same rfl) (k := 0) (.sl (i := 0) rfl) rfl (Go.Ab.strs_top _) (.inl rfl) (.inl rfl)
    · cases hq
  · cases hq
def specSet : Spec := fun
  | [.str s], h => if s = digits10 then some ⟨.tup [.agg dset, .bool true], h, []⟩ else none
  | _, _ => none
theorem dset_top : topL dset = 0 := by
  have : ∀ l : List Nat, topL (l.map fun i => AV.bool (digB i)) = 0 := fun l => by
    induction l with
    | nil => rfl
    | cons a l ih => simp only [List.map_cons, topL, ih, AV.top]; rfl
  unfold dset
  exact this _
theorem set273 : SpecOK Tryz.prog gl 273 specSet := by
  intro xs h r hq
  unfold specSet at hq
  split at hq
  · split at hq
    · rename_i hs
      subst hs
      cases hq
      exact ent_run0 seat tab_nil (w273 (M := mach Tryz.prog FT []) mach_ft) (FrL.same rfl) (by simp [AV.top, topL, dset_top]) (.inl rfl)
    · cases hq
  · cases hq
def T211 : List (Nat × Spec) := [(273, specSet)]
theorem ct211 : CT211 (mach Tryz.prog FT T211) where
  ft := mach_ft
  n320 _ _ := rfl
  n274 _ _ := rfl
  n275 _ _ := rfl
  c273 h := by
    rw [mach_ext]
    show specSet [.str digits10] h = _
    simp only [specSet, if_true]
def specTrim : Spec := fun
  | [.str s, .str d], h => if d = digits10 ∧ s.length < 1000000 then some ⟨.str (trimL (trimR s)), h, []⟩ else none
  | _, _ => none
theorem trim211 : SpecOK Tryz.prog gl 211 specTrim := by
  intro xs h r hq
  unfold specTrim at hq
  split at hq
  · split at hq
    · rename_i hc
      obtain ⟨rfl, hl⟩ := hc
      cases hq
      exact ent_run0 seat (T := T211) (tab_cons set273 tab_nil) (w211 ct211 _ hl) (FrL.same rfl) rfl (.inl rfl)
    · cases hq
  · cases hq
def specAtoi : Spec := fun
  | [.str s], h => if s ≠ [] ∧ s.length ≤ 18 ∧ s.all isD = true then some ⟨.tup [.int .i64 (dvF 0 s), .niliface], h, []⟩ else none
  | _, _ => none
theorem cat : CAt (mach Tryz.prog FT []) := ⟨mach_ft, fun _ _ => rfl⟩
theorem atoi212 : SpecOK Tryz.prog gl 212 specAtoi := by
  intro xs h r hq
  unfold specAtoi at hq
  split at hq
  · split at hq
    · rename_i hc
      cases hq
      exact ent_run0 seat tab_nil (w212 cat _ hc.1 hc.2.1 hc.2.2) (FrL.same rfl) rfl (.inl rfl)
    · cases hq
  · cases hq
def T161 : List (Nat × Spec) := [(211, specTrim), (212, specAtoi)]
theorem T161_ok : ExtOK Tryz.prog gl (extS T161) := tab_cons trim211 (tab_cons atoi212 tab_nil)
theorem cat' : CAt' (mach Tryz.prog FT T161) where
  at' := ⟨mach_ft, fun _ _ => rfl⟩
  c211 s h hl := by
    rw [mach_ext]
    show specTrim [.str s, .str digits10] h = _
    simp only [specTrim]
    rw [if_pos ⟨trivial, hl⟩]
  c212 s h h0 hl hd := by
    rw [mach_ext]
    show specAtoi [.str s] h = _
    simp only [specAtoi]
    rw [if_pos ⟨h0, hl, hd⟩]
theorem int161 : SpecOK Tryz.prog gl 161 (specS intV 1000000) := specS_ok T161_ok (fun _ => rfl) fun s hl => w161 cat' s hl
theorem int96 : SpecOK Tryz.prog gl 96 (specS intV 1000000) := specS_ok (T := []) tab_nil (fun _ => rfl) fun s hl => w96 mach_ft s hl

/-! Pack. -/
def specItoa : Spec := fun
  | [.int .i64 n], h => if 0 ≤ n ∧ n < 400 then some ⟨.str (decD n.toNat), h, []⟩ else none
  | _, _ => none
theorem itoa84 : SpecOK Tryz.prog gl 84 specItoa := by
  intro xs h r hq
  unfold specItoa at hq
  split at hq
  · rename_i n
    split at hq
    · rename_i hc
      obtain ⟨n, rfl⟩ := Int.eq_ofNat_of_zero_le hc.1
      cases hq
      exact ent_run0 seat tab_nil (chk_run (chk_all (by omega))) (FrL.same rfl) rfl (.inl rfl)
    · cases hq
  · cases hq
theorem itoa_eq {n : Nat} {h : Heap} (h0 : 0 < n) (hn : n < 400) : specItoa [.int .i64 n] h = some ⟨.str (decD n), h, []⟩ := by
  have e : specItoa [.int .i64 n] h = if 0 ≤ (n : Int) ∧ (n : Int) < 400 then some ⟨.str (decD (n : Int).toNat), h, []⟩ else none := rfl
  rw [e, if_pos ⟨by omega, by omega⟩, Int.toNat_natCast]
def TT17 : List (Nat × Spec) := [(70, specImg fImgE), (84, specItoa), (208, specX .same)]
theorem TT17_ok : ExtOK Tryz.prog gl (extS TT17) := tab_cons check70 (tab_cons itoa84 (tab_cons (specX_ok x208) tab_nil))
theorem c17 : C17' (mach Tryz.prog FT TT17) where
  ft := mach_ft
  n83 _ _ := rfl
  n156 _ _ := rfl
  c208 _ _ := by rw [mach_ext]; rfl
  c84 n h h0 hn := by
    rw [mach_ext]
    refine Eq.trans (b := specItoa [.int .i64 n] h) ?_ (itoa_eq h0 hn)
    generalize AV.int .i64 (n : Int) = a
    rfl
  c70 rows l cap h hL hl := by rw [mach_ext]; exact specImg_vs hL hl
  n82 _ _ := rfl
  n85 _ _ := rfl
  n86 _ _ := rfl
def specPack : Spec := fun
  | [v], h => match imgAt h v with
    | some (rows, l) => if shortL l = true ∧ l.length < 1000000 ∧ (imgE rows l = 0 → l.length < 400) then some ⟨.tup [.str (packR rows l).1, .int .i64 (packR rows l).2], h, []⟩ else none
    | none => none
  | _, _ => none
theorem pack17 : SpecOK Tryz.prog gl 17 specPack := by
  intro xs h r hq
  unfold specPack at hq
  split at hq
  · split at hq
    · rename_i rows l hi
      split at hq
      · rename_i hc
        cases hq
        obtain ⟨S, cap, hf⟩ := imgAt_fr hi
        exact ent_run0 seat TT17_ok (w17 c17 rows l (shortL_mem hc.1) hc.2.1 hc.2.2) (.cons hf .nil) rfl (.inr rfl)
      · cases hq
    · cases hq
  · cases hq
/-! The reference's Pack. -/
def specDec : Spec := fun
  | [.int .i64 n, .int .i64 least], h => if 0 ≤ n ∧ n ≤ 1000000000 ∧ least = 1 then some ⟨.str (decD n.toNat), h, []⟩ else none
  | _, _ => none
theorem dec182 : SpecOK Tryz.prog gl 182 specDec := by
  intro xs h r hq
  unfold specDec at hq
  split at hq
  · split at hq
    · rename_i hc
      obtain ⟨h0, h1, rfl⟩ := hc
      obtain ⟨n, rfl⟩ := Int.eq_ofNat_of_zero_le h0
      cases hq
      exact ent_run0 seat tab_nil (w182 (M := mach Tryz.prog FT []) mach_ft n 1 (by omega) (by decide)) (FrL.same rfl) rfl (.inl rfl)
    · cases hq
  · cases hq
def specWhole : Spec := fun
  | [.int .i64 n], h => if 0 < n ∧ n < 1000000000 then some ⟨.agg [.bool false, .sl h.length 0 1 1 none], h ++ [some (.cells [.int .i64 n] 3)], []⟩ else none
  | _, _ => none
theorem rn_whole {k n : Nat} {b : Bool} {h : Heap} : Rn [k] h.length (.agg [.bool b, .sl k 0 n 1 none]) (.agg [.bool b, .sl h.length 0 n 1 none]) := by
  refine .agg rfl fun i x y hx hy => ?_
  match i, hx, hy with
  | 0, hx, hy => cases hx; cases hy; exact .same rfl
  | 1, hx, hy => cases hx; cases hy; exact .sl (i := 0) rfl
theorem whole130 : SpecOK Tryz.prog gl 130 specWhole := by
  intro xs h r hq
  unfold specWhole at hq
  split at hq
  · split at hq
    · rename_i hc
      cases hq
      exact ent_run1 seat tab_nil (w130 (M := mach Tryz.prog FT []) mach_ft (fun _ _ => rfl) (fun _ _ => rfl) _ hc) (FrL.same rfl) (k := 2) rn_whole rfl rfl (.inl rfl) (.inl rfl)
    · cases hq
  · cases hq
def specText : Spec := fun
  | [.agg [.bool b, v]], h => match intsAt h v with
    | some [n] => if b = false ∧ 0 ≤ n ∧ n < 1000000000 then some ⟨.str (decD n.toNat), h, []⟩ else none
    | _ => none
  | _, _ => none
theorem Fr.aggB {h : Heap} {S : List Nat} {b : Bool} {x y : AV} (hx : Fr h S x y) : Fr h S (.agg [.bool b, x]) (.agg [.bool b, y]) :=
  .agg rfl fun i a b ha hb => by
    match i, ha, hb with
    | 0, ha, hb => cases ha; cases hb; exact .same rfl
    | 1, ha, hb => cases ha; cases hb; exact hx
def T129 : List (Nat × Spec) := [(182, specDec)]
theorem text129 : SpecOK Tryz.prog gl 129 specText := by
  intro xs h r hq
  unfold specText at hq
  split at hq
  · rename_i b v
    split at hq
    · rename_i n hi
      split at hq
      · rename_i hc
        obtain ⟨rfl, h0, h1⟩ := hc
        obtain ⟨n, rfl⟩ := Int.eq_ofNat_of_zero_le h0
        cases hq
        obtain ⟨S, cap, hf⟩ := (intsAt_sl hi).fr (fun _ => rfl)
        refine ent_run0 seat (T := T129) (tab_cons dec182 tab_nil) (w129 (cap := cap) mach_ft (fun n h hn => ?_) n (by omega)) (.cons (Fr.aggB hf) .nil) rfl (.inr rfl)
        rw [mach_ext]
        show specDec [.int .i64 n, .int .i64 1] h = _
        simp only [specDec]
        rw [if_pos ⟨by omega, by omega, by trivial⟩, Int.toNat_natCast]
        rfl
      · cases hq
    · cases hq
  · cases hq
def T49 : List (Nat × Spec) := [(130, specWhole), (129, specText)]
def specFromInt : Spec := fun
  | [.int .i64 n], h => if 0 < n ∧ n < 1000000000 then some ⟨.str (decD n.toNat), h, []⟩ else none
  | _, _ => none
theorem fromInt49 : SpecOK Tryz.prog gl 49 specFromInt := by
  intro xs h r hq
  unfold specFromInt at hq
  split at hq
  · split at hq
    · rename_i hc
      obtain ⟨n, rfl⟩ := Int.eq_ofNat_of_zero_le (Int.le_of_lt hc.1)
      cases hq
      refine ent_run0 seat (T := T49) (tab_cons whole130 (tab_cons text129 tab_nil)) (w49 mach_ft (fun n h h0 h1 => ?_) (fun n b h hn hb => ?_) n (by omega)) (FrL.same rfl) rfl (.inl rfl)
      · rw [mach_ext]
        show specWhole [.int .i64 n] h = _
        simp only [specWhole]
        rw [if_pos ⟨h0, h1⟩]
      · rw [mach_ext]
        show specText [.agg [.bool false, .sl b 0 1 1 none]] h = _
        have e : intsAt h (.sl b 0 1 1 none) = some [(n : Int)] := ints_at' hb rfl
        simp only [specText, e]
        rw [if_pos ⟨trivial, by omega, by omega⟩, Int.toNat_natCast]
        rfl
    · cases hq
  · cases hq
def T89 : List (Nat × Spec) := [(49, specFromInt)]
theorem fromInt_eq {n : Nat} {h : Heap} (h0 : 0 < n) (h1 : n < 1000000000) : specFromInt [.int .i64 n] h = some ⟨.str (decD n), h, []⟩ := by
  simp only [specFromInt]
  rw [if_pos (by omega), Int.toNat_natCast]
theorem decimal89 : SpecOK Tryz.prog gl 89 specFromInt := by
  intro xs h r hq
  unfold specFromInt at hq
  split at hq
  · split at hq
    · rename_i hc
      obtain ⟨n, rfl⟩ := Int.eq_ofNat_of_zero_le (Int.le_of_lt hc.1)
      cases hq
      exact ent_run0 seat (T := T89) (tab_cons fromInt49 tab_nil) (w89 mach_ft (fun n h h0 h1 => by rw [mach_ext]; exact fromInt_eq h0 h1) n (by omega)) (FrL.same rfl) rfl (.inl rfl)
    · cases hq
  · cases hq
def TT19 : List (Nat × Spec) := [(89, specFromInt)]
def specRefPack : Spec := fun
  | [v], h => match imgAt h v with
    | some (_, l) => if (l.all fun s => decide (s.length < 100000)) = true ∧ l.length < 100000 then some ⟨.str (packL l), h, []⟩ else none
    | none => none
  | _, _ => none
theorem refPack19 : SpecOK Tryz.prog gl 19 specRefPack := by
  intro xs h r hq
  unfold specRefPack at hq
  split at hq
  · split at hq
    · rename_i rows l hi
      split at hq
      · rename_i hc
        cases hq
        obtain ⟨S, cap, hf⟩ := imgAt_fr hi
        exact ent_run0 seat (T := TT19) (tab_cons decimal89 tab_nil) (w19 mach_ft (fun n h h0 h1 => by rw [mach_ext]; exact fromInt_eq h0 h1) l hc.2 (fun s hs => by have := List.all_eq_true.1 hc.1 s hs; simpa using this) rows) (.cons hf .nil) rfl (.inr rfl)
      · cases hq
    · cases hq
  · cases hq

/-! Unpack. -/
def TT21 : List (Nat × Spec) := [(91, specWhen), (90, specFirst), (150, specRepeat), (153, specLetters), (160, specSB fCut 1000000), (161, specS intV 1000000), (162, specContains), (92, specSB fSuf 1000000), (95, specSB fTrimSuf 1000000), (94, specSplit)]
theorem TT21_ok : ExtOK Tryz.prog gl (extS TT21) := tab_cons when91 (tab_cons first90 (tab_cons repeat150 (tab_cons letters153 (tab_cons cut160 (tab_cons int161 (tab_cons contains162 (tab_cons suf92 (tab_cons trimSuf95 (tab_cons split94 tab_nil)))))))))
theorem c21 : C21 (mach Tryz.prog FT TT21) where
  t := {
    ft := mach_ft
    c91 := fun _ _ _ => by rw [mach_ext]; rfl
    c90 := fun v l h hl hn => by
      rw [mach_ext]
      show specFirst [v] h = _
      simp only [specFirst, hl, if_pos hn]
    c150 := fun H s t h1 ht => by
      rw [mach_ext]
      show specRepeat [.sl H.length 0 1 1 (some 1), .int .i64 t] (H ++ [some (.cells [.str s] 9)]) = _
      have e : Heap.at (H ++ [some (.cells [.str s] 9)]) H.length = some (.cells (strs [s]) 9) := at_new
      have e1 : strsAt (H ++ [some (.cells [.str s] 9)]) (.sl H.length 0 1 1 (some 1)) = some [s] := strs_at e rfl
      simp only [specRepeat, e1]
      rw [if_pos (by omega), Int.toNat_natCast]
    c153 := fun s h hl => by
      rw [mach_ext]
      show specLetters [.str s] h = _
      simp only [specLetters, if_pos hl]
    c160 := fun s h hl => by rw [mach_ext]; exact specSB_eq h hl
    c161 := fun s h hl => by rw [mach_ext]; exact specS_eq h hl
    c162 := fun _ _ => by rw [mach_ext]; rfl }
  n93 _ _ := rfl
  c92 s h hl := by rw [mach_ext]; exact specSB_eq h hl
  c95 s h hl := by rw [mach_ext]; exact specSB_eq h hl
  c94 s h hl := by
    rw [mach_ext]
    show specSplit [.str s, .str [10]] h = _
    simp only [specSplit, if_pos hl]
def unOut (s : Str) (h : Heap) : HR := if (unpR s).2.1 = [] then ⟨.tup [.agg [.int .i64 (unpR s).1, .nilsl], .int .i64 (unpR s).2.2.1, .int .i64 (unpR s).2.2.2], h, []⟩
  else ⟨.tup [.agg [.int .i64 (unpR s).1, .sl h.length 0 (unpR s).2.1.length 1 none], .int .i64 (unpR s).2.2.1, .int .i64 (unpR s).2.2.2], h ++ [some (.cells (strs (unpR s).2.1) 9)], []⟩
def specUn : Spec := fun
  | [.str s], h => if s.length < 1000000 then some (unOut s h) else none
  | _, _ => none
theorem rn_un {k n : Nat} {r a b : Int} {h : Heap} : Rn [k] h.length (.tup [.agg [.int .i64 r, .sl k 0 n 1 none], .int .i64 a, .int .i64 b]) (.tup [.agg [.int .i64 r, .sl h.length 0 n 1 none], .int .i64 a, .int .i64 b]) := by
  refine .tup rfl fun i x y hx hy => ?_
  match i, hx, hy with
  | 0, hx, hy => cases hx; cases hy; exact rn_img1
  | 1, hx, hy => cases hx; cases hy; exact .same rfl
  | 2, hx, hy => cases hx; cases hy; exact .same rfl
theorem un_ok {g : Nat} {T : List (Nat × Spec)} (hT : ExtOK Tryz.prog gl (extS T)) (hr : ∀ s : Str, s.length < 1000000 → ∃ v hh, OutW hh v (unpR s).2.1 ∧ Run (mach Tryz.prog FT T) g [.str s] [] ⟨.tup [.agg [.int .i64 (unpR s).1, v], .int .i64 (unpR s).2.2.1, .int .i64 (unpR s).2.2.2], hh, []⟩) : SpecOK Tryz.prog gl g specUn := by
  intro xs h r hq
  unfold specUn at hq
  split at hq
  · rename_i s
    split at hq
    · rename_i hl
      obtain ⟨v, hh, ho, hr⟩ := hr s hl
      rcases ho with ⟨h1, rfl⟩ | ⟨c, h0, rfl, h2⟩
      · rw [unOut, if_pos h1] at hq
        cases hq
        exact ent_run0 seat hT hr (FrL.same rfl) rfl (.inl rfl)
      · rw [unOut, if_neg h0] at hq
        cases hq
        exact ent_run1 seat hT hr (FrL.same rfl) (k := c) rn_un h2 (Go.Ab.strs_top _) (.inl rfl) (.inl rfl)
    · cases hq
  · cases hq
theorem unpack21 : SpecOK Tryz.prog gl 21 specUn := un_ok TT21_ok fun s hl => w21 c21 s hl
def TT22 : List (Nat × Spec) := [(88, specCol), (96, specS intV 1000000)]
theorem TT22_ok : ExtOK Tryz.prog gl (extS TT22) := tab_cons col88 (tab_cons int96 tab_nil)
theorem c22 : C22 (mach Tryz.prog FT TT22) where
  ft := mach_ft
  c88 s rows h hl := by
    rw [mach_ext]
    show specCol [.str s, .int .i64 rows] h = _
    simp only [specCol, if_pos hl]
  c96 s h hl := by rw [mach_ext]; exact specS_eq h hl
theorem unpack22 : SpecOK Tryz.prog gl 22 specUn := un_ok TT22_ok fun s hl => w22 c22 s hl
theorem un_e {s : Str} {h : Heap} (hl : s.length < 1000000) (he : (unpR s).2.1 = []) : specUn [.str s] h = some ⟨.tup [.agg [.int .i64 (unpR s).1, .nilsl], .int .i64 (unpR s).2.2.1, .int .i64 (unpR s).2.2.2], h, []⟩ := by
  simp only [specUn]
  rw [if_pos hl, unOut, if_pos he]
theorem un_s {s : Str} {h : Heap} (hl : s.length < 1000000) (he : (unpR s).2.1 ≠ []) : specUn [.str s] h = some ⟨.tup [.agg [.int .i64 (unpR s).1, .sl h.length 0 (unpR s).2.1.length 1 none], .int .i64 (unpR s).2.2.1, .int .i64 (unpR s).2.2.2], h ++ [some (.cells (strs (unpR s).2.1) 9)], []⟩ := by
  simp only [specUn]
  rw [if_pos hl, unOut, if_neg he]
def TTexts : List (Nat × Spec) := [(15, specAwake), (16, specShort), (17, specPack), (18, specImg fImgE), (19, specRefPack), (20, specWhen), (21, specUn), (22, specUn), (23, specImage)]
theorem TTexts_ok : ExtOK Tryz.prog gl (extS TTexts) := tab_cons awake15 (tab_cons short16 (tab_cons pack17 (tab_cons check18 (tab_cons refPack19 (tab_cons when20 (tab_cons unpack21 (tab_cons unpack22 (tab_cons image23 tab_nil))))))))
theorem calls3 : Calls3 (mach Tryz.prog FT TTexts) where
  c15 _ := by rw [mach_ext]; rfl
  c16 rows l cap h := by
    rw [mach_ext]
    show specShort [.agg [.int .i64 rows, .vs (strs l) l.length cap]] h = _
    simp only [specShort, imgAt_vs]
  c17 rows l cap h hL hl hS := by
    rw [mach_ext]
    show specPack [.agg [.int .i64 rows, .vs (strs l) l.length cap]] h = _
    simp only [specPack, imgAt_vs]
    rw [if_pos ⟨shortL_of hL, hl, hS⟩]
  c18 rows l cap h hL hl := by rw [mach_ext]; exact specImg_vs hL hl
  c19 rows l cap h hL hl := by
    rw [mach_ext]
    show specRefPack [.agg [.int .i64 rows, .vs (strs l) l.length cap]] h = _
    simp only [specRefPack, imgAt_vs]
    rw [if_pos ⟨by rw [List.all_eq_true]; intro s hs; simpa using hL s hs, hl⟩]
  c20 _ _ _ := by rw [mach_ext]; rfl
  c21e s h hl he := by rw [mach_ext]; exact un_e hl he
  c21s s h hl he := by rw [mach_ext]; exact un_s hl he
  c22e s h hl he := by rw [mach_ext]; exact un_e hl he
  c22s s h hl he := by rw [mach_ext]; exact un_s hl he
  c23 r r' x y l m e bad h hx hy hl := by
    rw [mach_ext]
    show specImage [.agg [.int .i64 r, x], .int .i64 e, .int .i64 bad, .agg [.int .i64 r', y]] h = _
    simp only [specImage, hx, hy, if_pos hl]
end Go.Ab.Ch5

