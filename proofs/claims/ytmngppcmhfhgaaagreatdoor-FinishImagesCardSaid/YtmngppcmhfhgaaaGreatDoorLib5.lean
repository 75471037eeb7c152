/-
  Own work: the law FinishImages, whole.
-/
import Derived.Test.YtmngppcmhfhgaaaGreatDoorLib4
import Derived.Test.YtmngppcmhfhgaaaGreatDoorLib3
import Derived.Test.YtmngppcmhfhgaaaGreatDoorLib2
import Derived.Deep.Slices
import Derived.Deep.Strs
import Derived.ChangeSame
namespace Go.Ab.Ch5
variable {M : Mach}

theorem short_len {l : List Str} (h : shortB l = true) : l.length < 1000000 ∧ ∀ s ∈ l, s.length < 4611686018427387904 := by
  unfold shortB at h
  split at h
  · cases h
  · rename_i hc
    refine ⟨by omega, fun s hs => ?_⟩
    have := List.all_eq_true.1 h s hs
    simp at this
    omega
set_option maxHeartbeats 4000000 in
theorem w13 (hft : M.FT = FT) (C : Calls13 M) (rows : Int) (l : List Str) (s : Str) (times : Int) : Run M 13 [.agg [.int .i64 rows, .vs (strs l) l.length none], .str s, .int .i64 times] [] ⟨.bool true, [], []⟩ := by
  have q16 := fun h => C.c16 rows l none h
  refine run_of_W (by rw [hft]; exact ft13) (by simp) ?_
  unfold b13
  simp only [List.map_cons, List.map_nil, List.getElem?_cons_zero, List.getElem?_cons_succ, List.getElem?_nil, Option.getD_some, Option.getD_none]
  by_cases h0 : shortB l = true ∧ s.length ≤ 9
  · obtain ⟨hsh, hs9⟩ := h0
    rw [hsh] at q16
    obtain ⟨hl, hL⟩ := short_len hsh
    have q18 := fun h => C.c18 rows l none h hL hl
    have q70 := fun h => C.c70 rows l none h hL hl
    by_cases hE : imgE rows l = 0
    · rw [hE] at q18 q70
      have q56 := fun h => C.c56 rows l none s h hL hl
      have q71 := fun h => C.c71 rows l none h hL hl hE
      by_cases hN : namesL (firsts26 l) 0 = []
      · have q55 := fun h => C.c55n rows l none h hL hl hE hN
        by_cases hS : strE rows l times = 0
        · obtain ⟨t, rfl, h1, ht⟩ : ∃ t : Nat, times = t ∧ 1 ≤ t ∧ t ≤ 4096 := by
            cases ho : outI times 1 4096
            · simp [outI] at ho
              exact ⟨times.toNat, by omega, by omega, by omega⟩
            · rw [strE, if_neg (fun h => h hE), ho] at hS
              simp at hS
          have q66 : ∀ h, M.ext 66 [.agg [.int .i64 rows, .vs (strs l) l.length none], .int .i64 t] h = some ⟨.tup [.agg [.int .i64 rows, .sl h.length 0 (strL t l).length 1 none], .int .i64 (strE rows l t)], h ++ [some (.cells (strs (strL t l)) 9)], []⟩ := fun h => by rw [C.c66 rows l none t h hL hl h1 ht hS, hS]
          repeat' first | (exact tail1 C rows l s t hL hl hE _ _ _ _ _ _ _ _ _ _ _ _ _ _ _ rfl rfl rfl rfl (by rw [hN]; exact strsAt_nil) (strs_at rfl rfl) (strs_at rfl rfl) (fun h => absurd hS h) (fun _ => ⟨rfl, by rw [Int.toNat_natCast]⟩)) | apply W.seq | apply SQn | apply W.region | apply WO.nil | apply W.block | apply W.ret | apply W.exit | apply W.skip | apply SQr | apply SQe | apply BQn | apply BQr | apply BQe | (apply BQo; exact rfl) | apply LQe | apply LQr | (apply W.drawro; exact rfl) | apply W.draw | apply WD.nil | (apply WD.gT; exact rfl) | (apply WD.gF; exact rfl) | (apply WD.sT; exact rfl) | (apply WD.sF; exact rfl) | (apply WD.sU; exact rfl) | (apply WD.pure1; exact rfl) | (apply WD.load1; exact rfl; exact rfl; exact rfl) | (apply WD.store1; exact rfl; exact rfl; exact rfl) | (apply WD.new1; exact rfl) | (apply WD.clb; exact rfl; exact rfl; exact rfl; exact rfl; all_goals first | (intro h; exact absurd h (by decide)) | intro _) | (apply WD.cl0; exact rfl; exact rfl; exact rfl; exact rfl) | (apply WD.cl1; exact rfl; exact rfl; exact rfl; exact rfl) | (apply W.condT; exact rfl) | (apply W.condF; exact rfl) | (apply W.cond; exact rfl; all_goals intro _) | (apply WO.gT; exact rfl) | (apply WO.gF; exact rfl) | (apply WO.sT; exact rfl) | (apply WO.sF; exact rfl) | (apply WO.sU; exact rfl) | (apply WO.lss; exact rfl; exact rfl; all_goals first | (intro _; exfalso; omega) | intro _) | (apply WO.gtr; exact rfl; exact rfl; all_goals first | (intro _; exfalso; omega) | intro _) | (apply WO.eql; exact rfl; exact rfl; all_goals first | (intro _; exfalso; omega) | intro _) | (apply WO.neq; exact rfl; exact rfl; all_goals first | (intro _; exfalso; omega) | intro _) | (apply WO.pkT; exact rfl; exact rfl) | (apply WO.pkF; exact rfl; exact rfl) | (apply WO.mul; exact rfl; exact rfl; omega) | (apply WO.cll; exact rfl; exact rfl; first | exact C.c15 _ | exact q16 _ | exact q18 _ | exact q70 _ | exact q55 _ | exact q56 _ | exact q71 _ | exact q66 _) | (apply WO.idx; exact rfl; exact rfl; omega) | (apply WO.seql; exact rfl; exact rfl; all_goals first | (intro h; exact absurd h (by decide)) | (intro h; exact absurd rfl h) | (intro h; contradiction) | intro _) | (apply WO.sneq; exact rfl; exact rfl; all_goals first | (intro h; exact absurd h (by decide)) | (intro h; exact absurd rfl h) | (intro h; contradiction) | intro _) | (apply WO.clb; exact rfl; exact rfl; exact rfl; all_goals first | (intro h; exact absurd h (by decide)) | intro _) | (apply WO.cll; exact rfl; exact rfl; exact rfl) | (apply WO.hlv; exact rfl; exact rfl; exact rfl) | (apply WO.hpv; exact rfl; exact rfl; exact rfl) | (apply WO.hnv; exact rfl; exact rfl; exact rfl) | (apply WO.pl; exact rfl; exact rfl) | (apply WO.pp; exact rfl; exact rfl)
        · have q66 := fun h => C.c66e rows l none times h hL hl hS
          repeat' first | (exact tail1 C rows l s times hL hl hE _ _ _ _ _ _ _ _ _ _ _ _ _ _ _ rfl rfl rfl rfl (by rw [hN]; exact strsAt_nil) (strs_at rfl rfl) strsAt_nil (fun _ => ⟨rfl, rfl⟩) (fun h => absurd h hS)) | apply W.seq | apply SQn | apply W.region | apply WO.nil | apply W.block | apply W.ret | apply W.exit | apply W.skip | apply SQr | apply SQe | apply BQn | apply BQr | apply BQe | (apply BQo; exact rfl) | apply LQe | apply LQr | (apply W.drawro; exact rfl) | apply W.draw | apply WD.nil | (apply WD.gT; exact rfl) | (apply WD.gF; exact rfl) | (apply WD.sT; exact rfl) | (apply WD.sF; exact rfl) | (apply WD.sU; exact rfl) | (apply WD.pure1; exact rfl) | (apply WD.load1; exact rfl; exact rfl; exact rfl) | (apply WD.store1; exact rfl; exact rfl; exact rfl) | (apply WD.new1; exact rfl) | (apply WD.clb; exact rfl; exact rfl; exact rfl; exact rfl; all_goals first | (intro h; exact absurd h (by decide)) | intro _) | (apply WD.cl0; exact rfl; exact rfl; exact rfl; exact rfl) | (apply WD.cl1; exact rfl; exact rfl; exact rfl; exact rfl) | (apply W.condT; exact rfl) | (apply W.condF; exact rfl) | (apply W.cond; exact rfl; all_goals intro _) | (apply WO.gT; exact rfl) | (apply WO.gF; exact rfl) | (apply WO.sT; exact rfl) | (apply WO.sF; exact rfl) | (apply WO.sU; exact rfl) | (apply WO.lss; exact rfl; exact rfl; all_goals first | (intro _; exfalso; omega) | intro _) | (apply WO.gtr; exact rfl; exact rfl; all_goals first | (intro _; exfalso; omega) | intro _) | (apply WO.eql; exact rfl; exact rfl; all_goals first | (intro _; exfalso; omega) | intro _) | (apply WO.neq; exact rfl; exact rfl; all_goals first | (intro _; exfalso; omega) | intro _) | (apply WO.pkT; exact rfl; exact rfl) | (apply WO.pkF; exact rfl; exact rfl) | (apply WO.mul; exact rfl; exact rfl; omega) | (apply WO.cll; exact rfl; exact rfl; first | exact C.c15 _ | exact q16 _ | exact q18 _ | exact q70 _ | exact q55 _ | exact q56 _ | exact q71 _ | exact q66 _) | (apply WO.idx; exact rfl; exact rfl; omega) | (apply WO.seql; exact rfl; exact rfl; all_goals first | (intro h; exact absurd h (by decide)) | (intro h; exact absurd rfl h) | (intro h; contradiction) | intro _) | (apply WO.sneq; exact rfl; exact rfl; all_goals first | (intro h; exact absurd h (by decide)) | (intro h; exact absurd rfl h) | (intro h; contradiction) | intro _) | (apply WO.clb; exact rfl; exact rfl; exact rfl; all_goals first | (intro h; exact absurd h (by decide)) | intro _) | (apply WO.cll; exact rfl; exact rfl; exact rfl) | (apply WO.hlv; exact rfl; exact rfl; exact rfl) | (apply WO.hpv; exact rfl; exact rfl; exact rfl) | (apply WO.hnv; exact rfl; exact rfl; exact rfl) | (apply WO.pl; exact rfl; exact rfl) | (apply WO.pp; exact rfl; exact rfl)
      · have q55 := fun h => C.c55s rows l none h hL hl hE hN
        by_cases hS : strE rows l times = 0
        · obtain ⟨t, rfl, h1, ht⟩ : ∃ t : Nat, times = t ∧ 1 ≤ t ∧ t ≤ 4096 := by
            cases ho : outI times 1 4096
            · simp [outI] at ho
              exact ⟨times.toNat, by omega, by omega, by omega⟩
            · rw [strE, if_neg (fun h => h hE), ho] at hS
              simp at hS
          have q66 : ∀ h, M.ext 66 [.agg [.int .i64 rows, .vs (strs l) l.length none], .int .i64 t] h = some ⟨.tup [.agg [.int .i64 rows, .sl h.length 0 (strL t l).length 1 none], .int .i64 (strE rows l t)], h ++ [some (.cells (strs (strL t l)) 9)], []⟩ := fun h => by rw [C.c66 rows l none t h hL hl h1 ht hS, hS]
          repeat' first | (exact tail1 C rows l s t hL hl hE _ _ _ _ _ _ _ _ _ _ _ _ _ _ _ rfl rfl rfl rfl (strs_at rfl rfl) (strs_at rfl rfl) (strs_at rfl rfl) (fun h => absurd hS h) (fun _ => ⟨rfl, by rw [Int.toNat_natCast]⟩)) | apply W.seq | apply SQn | apply W.region | apply WO.nil | apply W.block | apply W.ret | apply W.exit | apply W.skip | apply SQr | apply SQe | apply BQn | apply BQr | apply BQe | (apply BQo; exact rfl) | apply LQe | apply LQr | (apply W.drawro; exact rfl) | apply W.draw | apply WD.nil | (apply WD.gT; exact rfl) | (apply WD.gF; exact rfl) | (apply WD.sT; exact rfl) | (apply WD.sF; exact rfl) | (apply WD.sU; exact rfl) | (apply WD.pure1; exact rfl) | (apply WD.load1; exact rfl; exact rfl; exact rfl) | (apply WD.store1; exact rfl; exact rfl; exact rfl) | (apply WD.new1; exact rfl) | (apply WD.clb; exact rfl; exact rfl; exact rfl; exact rfl; all_goals first | (intro h; exact absurd h (by decide)) | intro _) | (apply WD.cl0; exact rfl; exact rfl; exact rfl; exact rfl) | (apply WD.cl1; exact rfl; exact rfl; exact rfl; exact rfl) | (apply W.condT; exact rfl) | (apply W.condF; exact rfl) | (apply W.cond; exact rfl; all_goals intro _) | (apply WO.gT; exact rfl) | (apply WO.gF; exact rfl) | (apply WO.sT; exact rfl) | (apply WO.sF; exact rfl) | (apply WO.sU; exact rfl) | (apply WO.lss; exact rfl; exact rfl; all_goals first | (intro _; exfalso; omega) | intro _) | (apply WO.gtr; exact rfl; exact rfl; all_goals first | (intro _; exfalso; omega) | intro _) | (apply WO.eql; exact rfl; exact rfl; all_goals first | (intro _; exfalso; omega) | intro _) | (apply WO.neq; exact rfl; exact rfl; all_goals first | (intro _; exfalso; omega) | intro _) | (apply WO.pkT; exact rfl; exact rfl) | (apply WO.pkF; exact rfl; exact rfl) | (apply WO.mul; exact rfl; exact rfl; omega) | (apply WO.cll; exact rfl; exact rfl; first | exact C.c15 _ | exact q16 _ | exact q18 _ | exact q70 _ | exact q55 _ | exact q56 _ | exact q71 _ | exact q66 _) | (apply WO.idx; exact rfl; exact rfl; omega) | (apply WO.seql; exact rfl; exact rfl; all_goals first | (intro h; exact absurd h (by decide)) | (intro h; exact absurd rfl h) | (intro h; contradiction) | intro _) | (apply WO.sneq; exact rfl; exact rfl; all_goals first | (intro h; exact absurd h (by decide)) | (intro h; exact absurd rfl h) | (intro h; contradiction) | intro _) | (apply WO.clb; exact rfl; exact rfl; exact rfl; all_goals first | (intro h; exact absurd h (by decide)) | intro _) | (apply WO.cll; exact rfl; exact rfl; exact rfl) | (apply WO.hlv; exact rfl; exact rfl; exact rfl) | (apply WO.hpv; exact rfl; exact rfl; exact rfl) | (apply WO.hnv; exact rfl; exact rfl; exact rfl) | (apply WO.pl; exact rfl; exact rfl) | (apply WO.pp; exact rfl; exact rfl)
        · have q66 := fun h => C.c66e rows l none times h hL hl hS
          repeat' first | (exact tail1 C rows l s times hL hl hE _ _ _ _ _ _ _ _ _ _ _ _ _ _ _ rfl rfl rfl rfl (strs_at rfl rfl) (strs_at rfl rfl) strsAt_nil (fun _ => ⟨rfl, rfl⟩) (fun h => absurd h hS)) | apply W.seq | apply SQn | apply W.region | apply WO.nil | apply W.block | apply W.ret | apply W.exit | apply W.skip | apply SQr | apply SQe | apply BQn | apply BQr | apply BQe | (apply BQo; exact rfl) | apply LQe | apply LQr | (apply W.drawro; exact rfl) | apply W.draw | apply WD.nil | (apply WD.gT; exact rfl) | (apply WD.gF; exact rfl) | (apply WD.sT; exact rfl) | (apply WD.sF; exact rfl) | (apply WD.sU; exact rfl) | (apply WD.pure1; exact rfl) | (apply WD.load1; exact rfl; exact rfl; exact rfl) | (apply WD.store1; exact rfl; exact rfl; exact rfl) | (apply WD.new1; exact rfl) | (apply WD.clb; exact rfl; exact rfl; exact rfl; exact rfl; all_goals first | (intro h; exact absurd h (by decide)) | intro _) | (apply WD.cl0; exact rfl; exact rfl; exact rfl; exact rfl) | (apply WD.cl1; exact rfl; exact rfl; exact rfl; exact rfl) | (apply W.condT; exact rfl) | (apply W.condF; exact rfl) | (apply W.cond; exact rfl; all_goals intro _) | (apply WO.gT; exact rfl) | (apply WO.gF; exact rfl) | (apply WO.sT; exact rfl) | (apply WO.sF; exact rfl) | (apply WO.sU; exact rfl) | (apply WO.lss; exact rfl; exact rfl; all_goals first | (intro _; exfalso; omega) | intro _) | (apply WO.gtr; exact rfl; exact rfl; all_goals first | (intro _; exfalso; omega) | intro _) | (apply WO.eql; exact rfl; exact rfl; all_goals first | (intro _; exfalso; omega) | intro _) | (apply WO.neq; exact rfl; exact rfl; all_goals first | (intro _; exfalso; omega) | intro _) | (apply WO.pkT; exact rfl; exact rfl) | (apply WO.pkF; exact rfl; exact rfl) | (apply WO.mul; exact rfl; exact rfl; omega) | (apply WO.cll; exact rfl; exact rfl; first | exact C.c15 _ | exact q16 _ | exact q18 _ | exact q70 _ | exact q55 _ | exact q56 _ | exact q71 _ | exact q66 _) | (apply WO.idx; exact rfl; exact rfl; omega) | (apply WO.seql; exact rfl; exact rfl; all_goals first | (intro h; exact absurd h (by decide)) | (intro h; exact absurd rfl h) | (intro h; contradiction) | intro _) | (apply WO.sneq; exact rfl; exact rfl; all_goals first | (intro h; exact absurd h (by decide)) | (intro h; exact absurd rfl h) | (intro h; contradiction) | intro _) | (apply WO.clb; exact rfl; exact rfl; exact rfl; all_goals first | (intro h; exact absurd h (by decide)) | intro _) | (apply WO.cll; exact rfl; exact rfl; exact rfl) | (apply WO.hlv; exact rfl; exact rfl; exact rfl) | (apply WO.hpv; exact rfl; exact rfl; exact rfl) | (apply WO.hnv; exact rfl; exact rfl; exact rfl) | (apply WO.pl; exact rfl; exact rfl) | (apply WO.pp; exact rfl; exact rfl)
    · have eS : strE rows l times = imgE rows l := by rw [strE, if_pos hE]
      have eR : firstR rows l s = (0, imgE rows l) := by rw [firstR, if_pos hE]
      have q55 := fun h => C.c55e rows l none h hL hl hE
      have q56 : ∀ h, M.ext 56 [.agg [.int .i64 rows, .vs (strs l) l.length none], .str s] h = some ⟨.tup [.int .i64 0, .int .i64 (imgE rows l)], h, []⟩ := fun h => by rw [C.c56 rows l none s h hL hl, eR]
      have q71 := fun h => C.c71e rows l none h hL hl hE
      have q66 : ∀ h, M.ext 66 [.agg [.int .i64 rows, .vs (strs l) l.length none], .int .i64 times] h = some ⟨.tup [.agg [.int .i64 0, .nilsl], .int .i64 (imgE rows l)], h, []⟩ := fun h => by rw [C.c66e rows l none times h hL hl (by rw [eS]; exact hE), eS]
      have q72 : ∀ h, M.ext 72 [.nilsl, .int .i64 (imgE rows l), .int .i64 (imgE rows l), .nilsl] h = some ⟨.bool true, h, []⟩ := fun h => by
        rw [C.c72 _ _ [] [] _ _ h strsAt_nil strsAt_nil (by simp), wordsB_bad hE]
      have q42 : ∀ h, M.ext 42 [.int .i64 0, .int .i64 (imgE rows l), .int .i64 (imgE rows l), .int .i64 0] h = some ⟨.bool true, h, []⟩ := fun h => by rw [C.c42, if_pos hE]; simp
      have q23 : ∀ h, M.ext 23 [.agg [.int .i64 0, .nilsl], .int .i64 (imgE rows l), .int .i64 (imgE rows l), .agg [.int .i64 rows, .vs (strs l) l.length none]] h = some ⟨.bool true, h, []⟩ := fun h => by
        rw [C.c23 _ _ _ _ [] l _ _ h strsAt_nil strsAt_vs (by simp), imageB_bad hE]
      generalize imgE rows l = E at *
      repeat' first | apply W.seq | apply SQn | apply W.region | apply WO.nil | apply W.block | apply W.ret | apply W.exit | apply W.skip | apply SQr | apply SQe | apply BQn | apply BQr | apply BQe | (apply BQo; exact rfl) | apply LQe | apply LQr | (apply W.drawro; exact rfl) | apply W.draw | apply WD.nil | (apply WD.gT; exact rfl) | (apply WD.gF; exact rfl) | (apply WD.sT; exact rfl) | (apply WD.sF; exact rfl) | (apply WD.sU; exact rfl) | (apply WD.pure1; exact rfl) | (apply WD.load1; exact rfl; exact rfl; exact rfl) | (apply WD.store1; exact rfl; exact rfl; exact rfl) | (apply WD.new1; exact rfl) | (apply WD.clb; exact rfl; exact rfl; exact rfl; exact rfl; all_goals first | (intro h; exact absurd h (by decide)) | intro _) | (apply WD.cl0; exact rfl; exact rfl; exact rfl; exact rfl) | (apply WD.cl1; exact rfl; exact rfl; exact rfl; exact rfl) | (apply W.condT; exact rfl) | (apply W.condF; exact rfl) | (apply W.cond; exact rfl; all_goals intro _) | (apply WO.gT; exact rfl) | (apply WO.gF; exact rfl) | (apply WO.sT; exact rfl) | (apply WO.sF; exact rfl) | (apply WO.sU; exact rfl) | (apply WO.lss; exact rfl; exact rfl; all_goals first | (intro _; exfalso; omega) | intro _) | (apply WO.gtr; exact rfl; exact rfl; all_goals first | (intro _; exfalso; omega) | intro _) | (apply WO.eql; exact rfl; exact rfl; all_goals first | (intro _; exfalso; omega) | intro _) | (apply WO.neq; exact rfl; exact rfl; all_goals first | (intro _; exfalso; omega) | intro _) | (apply WO.pkT; exact rfl; exact rfl) | (apply WO.pkF; exact rfl; exact rfl) | (apply WO.mul; exact rfl; exact rfl; omega) | (apply WO.cll; exact rfl; exact rfl; first | exact C.c15 _ | exact q16 _ | exact q18 _ | exact q70 _ | exact q55 _ | exact q56 _ | exact q71 _ | exact q66 _ | exact q72 _ | exact q42 _ | exact q23 _) | (apply WO.idx; exact rfl; exact rfl; omega) | (apply WO.seql; exact rfl; exact rfl; all_goals first | (intro h; exact absurd h (by decide)) | (intro h; exact absurd rfl h) | (intro h; contradiction) | intro _) | (apply WO.sneq; exact rfl; exact rfl; all_goals first | (intro h; exact absurd h (by decide)) | (intro h; exact absurd rfl h) | (intro h; contradiction) | intro _) | (apply WO.clb; exact rfl; exact rfl; exact rfl; all_goals first | (intro h; exact absurd h (by decide)) | intro _) | (apply WO.cll; exact rfl; exact rfl; exact rfl) | (apply WO.hlv; exact rfl; exact rfl; exact rfl) | (apply WO.hpv; exact rfl; exact rfl; exact rfl) | (apply WO.hnv; exact rfl; exact rfl; exact rfl) | (apply WO.pl; exact rfl; exact rfl) | (apply WO.pp; exact rfl; exact rfl)
      all_goals exact ends rfl rfl
  · cases hsh : shortB l
    · rw [hsh] at q16
      repeat' first | apply W.seq | apply SQn | apply W.region | apply WO.nil | apply W.block | apply W.ret | apply W.exit | apply W.skip | apply SQr | apply SQe | apply BQn | apply BQr | apply BQe | (apply BQo; exact rfl) | apply LQe | apply LQr | (apply W.drawro; exact rfl) | apply W.draw | apply WD.nil | (apply WD.gT; exact rfl) | (apply WD.gF; exact rfl) | (apply WD.sT; exact rfl) | (apply WD.sF; exact rfl) | (apply WD.sU; exact rfl) | (apply WD.pure1; exact rfl) | (apply WD.load1; exact rfl; exact rfl; exact rfl) | (apply WD.store1; exact rfl; exact rfl; exact rfl) | (apply WD.new1; exact rfl) | (apply WD.clb; exact rfl; exact rfl; exact rfl; exact rfl; all_goals first | (intro h; exact absurd h (by decide)) | intro _) | (apply WD.cl0; exact rfl; exact rfl; exact rfl; exact rfl) | (apply WD.cl1; exact rfl; exact rfl; exact rfl; exact rfl) | (apply W.condT; exact rfl) | (apply W.condF; exact rfl) | (apply W.cond; exact rfl; all_goals intro _) | (apply WO.gT; exact rfl) | (apply WO.gF; exact rfl) | (apply WO.sT; exact rfl) | (apply WO.sF; exact rfl) | (apply WO.sU; exact rfl) | (apply WO.lss; exact rfl; exact rfl; all_goals first | (intro _; exfalso; omega) | intro _) | (apply WO.gtr; exact rfl; exact rfl; all_goals first | (intro _; exfalso; omega) | intro _) | (apply WO.eql; exact rfl; exact rfl; all_goals first | (intro _; exfalso; omega) | intro _) | (apply WO.neq; exact rfl; exact rfl; all_goals first | (intro _; exfalso; omega) | intro _) | (apply WO.pkT; exact rfl; exact rfl) | (apply WO.pkF; exact rfl; exact rfl) | (apply WO.mul; exact rfl; exact rfl; omega) | (apply WO.cll; exact rfl; exact rfl; first | exact C.c15 _ | exact q16 _) | (apply WO.idx; exact rfl; exact rfl; omega) | (apply WO.seql; exact rfl; exact rfl; all_goals first | (intro h; exact absurd h (by decide)) | (intro h; exact absurd rfl h) | (intro h; contradiction) | intro _) | (apply WO.sneq; exact rfl; exact rfl; all_goals first | (intro h; exact absurd h (by decide)) | (intro h; exact absurd rfl h) | (intro h; contradiction) | intro _) | (apply WO.clb; exact rfl; exact rfl; exact rfl; all_goals first | (intro h; exact absurd h (by decide)) | intro _) | (apply WO.cll; exact rfl; exact rfl; exact rfl) | (apply WO.hlv; exact rfl; exact rfl; exact rfl) | (apply WO.hpv; exact rfl; exact rfl; exact rfl) | (apply WO.hnv; exact rfl; exact rfl; exact rfl) | (apply WO.pl; exact rfl; exact rfl) | (apply WO.pp; exact rfl; exact rfl)
      all_goals exact ends rfl rfl
    · rw [hsh] at q16
      have hs9 : ¬ s.length ≤ 9 := fun h => h0 ⟨hsh, h⟩
      repeat' first | apply W.seq | apply SQn | apply W.region | apply WO.nil | apply W.block | apply W.ret | apply W.exit | apply W.skip | apply SQr | apply SQe | apply BQn | apply BQr | apply BQe | (apply BQo; exact rfl) | apply LQe | apply LQr | (apply W.drawro; exact rfl) | apply W.draw | apply WD.nil | (apply WD.gT; exact rfl) | (apply WD.gF; exact rfl) | (apply WD.sT; exact rfl) | (apply WD.sF; exact rfl) | (apply WD.sU; exact rfl) | (apply WD.pure1; exact rfl) | (apply WD.load1; exact rfl; exact rfl; exact rfl) | (apply WD.store1; exact rfl; exact rfl; exact rfl) | (apply WD.new1; exact rfl) | (apply WD.clb; exact rfl; exact rfl; exact rfl; exact rfl; all_goals first | (intro h; exact absurd h (by decide)) | intro _) | (apply WD.cl0; exact rfl; exact rfl; exact rfl; exact rfl) | (apply WD.cl1; exact rfl; exact rfl; exact rfl; exact rfl) | (apply W.condT; exact rfl) | (apply W.condF; exact rfl) | (apply W.cond; exact rfl; all_goals intro _) | (apply WO.gT; exact rfl) | (apply WO.gF; exact rfl) | (apply WO.sT; exact rfl) | (apply WO.sF; exact rfl) | (apply WO.sU; exact rfl) | (apply WO.lss; exact rfl; exact rfl; all_goals first | (intro _; exfalso; omega) | intro _) | (apply WO.gtr; exact rfl; exact rfl; all_goals first | (intro _; exfalso; omega) | intro _) | (apply WO.eql; exact rfl; exact rfl; all_goals first | (intro _; exfalso; omega) | intro _) | (apply WO.neq; exact rfl; exact rfl; all_goals first | (intro _; exfalso; omega) | intro _) | (apply WO.pkT; exact rfl; exact rfl) | (apply WO.pkF; exact rfl; exact rfl) | (apply WO.mul; exact rfl; exact rfl; omega) | (apply WO.cll; exact rfl; exact rfl; first | exact C.c15 _ | exact q16 _) | (apply WO.idx; exact rfl; exact rfl; omega) | (apply WO.seql; exact rfl; exact rfl; all_goals first | (intro h; exact absurd h (by decide)) | (intro h; exact absurd rfl h) | (intro h; contradiction) | intro _) | (apply WO.sneq; exact rfl; exact rfl; all_goals first | (intro h; exact absurd h (by decide)) | (intro h; exact absurd rfl h) | (intro h; contradiction) | intro _) | (apply WO.clb; exact rfl; exact rfl; exact rfl; all_goals first | (intro h; exact absurd h (by decide)) | intro _) | (apply WO.cll; exact rfl; exact rfl; exact rfl) | (apply WO.hlv; exact rfl; exact rfl; exact rfl) | (apply WO.hpv; exact rfl; exact rfl; exact rfl) | (apply WO.hnv; exact rfl; exact rfl; exact rfl) | (apply WO.pl; exact rfl; exact rfl) | (apply WO.pp; exact rfl; exact rfl)
      all_goals exact ends rfl rfl
end Go.Ab.Ch5


/-
  Own work: the contracts of FinishImages as a table.
-/
namespace Go.Ab.Ch5
open Go.Proofs

/-! Images as arguments. -/
def imgAt (h : Heap) : AV → Option (Int × List Str)
  | .agg [.int .i64 rows, v] => (strsAt h v).map fun l => (rows, l)
  | _ => none
theorem imgAt_vs {h : Heap} {rows : Int} {l : List Str} {cap : Option Nat} : imgAt h (.agg [.int .i64 rows, .vs (strs l) l.length cap]) = some (rows, l) := by
  simp only [imgAt, strsAt_vs, Option.map_some]
theorem imgAt_inv {h : Heap} {v : AV} {rows : Int} {l : List Str} (hi : imgAt h v = some (rows, l)) : ∃ x, v = .agg [.int .i64 rows, x] ∧ strsAt h x = some l := by
  unfold imgAt at hi
  split at hi
  · rename_i r x
    rw [Option.map_eq_some_iff] at hi
    obtain ⟨l', h1, h2⟩ := hi
    cases h2
    exact ⟨x, rfl, h1⟩
  · cases hi
theorem Fr.agg2 {h : Heap} {S : List Nat} {r : Int} {x y : AV} (hx : Fr h S x y) : Fr h S (.agg [.int .i64 r, x]) (.agg [.int .i64 r, y]) :=
  .agg rfl fun i a b ha hb => by
    match i, ha, hb with
    | 0, ha, hb => cases ha; cases hb; exact .same rfl
    | 1, ha, hb => cases ha; cases hb; exact hx
theorem imgAt_fr {h : Heap} {v : AV} {rows : Int} {l : List Str} (hi : imgAt h v = some (rows, l)) : ∃ S cap, Fr h S v (.agg [.int .i64 rows, .vs (strs l) l.length cap]) := by
  obtain ⟨x, rfl, hx⟩ := imgAt_inv hi
  obtain ⟨S, cap, hf⟩ := (strsAt_sl hx).fr (fun _ => rfl)
  exact ⟨S, cap, Fr.agg2 hf⟩
def shortL (l : List Str) : Bool := l.all fun s => decide (s.length < 4611686018427387904)
theorem shortL_mem {l : List Str} (h : shortL l = true) : ∀ s ∈ l, s.length < 4611686018427387904 := fun s hs => by
  have := List.all_eq_true.1 h s hs
  simpa using this
theorem shortL_of {l : List Str} (h : ∀ s ∈ l, s.length < 4611686018427387904) : shortL l = true := by
  rw [shortL, List.all_eq_true]
  intro s hs
  simpa using h s hs
theorem novL_strs (l : List Str) : novL (strs l) = true := novL_arr (fun _ => rfl) l

/-! Checks. -/
def specPix : Spec := fun
  | [.int .u8 c], h => some ⟨.bool (pixI c), h, []⟩
  | _, _ => none
theorem pix158 : SpecOK Tryz.prog gl 158 specPix := by
  intro xs h r hq
  unfold specPix at hq
  split at hq
  · cases hq
    exact ent_run0 seat tab_nil (w158 (M := mach Tryz.prog FT []) mach_ft _) (FrL.same rfl) rfl (.inl rfl)
  · cases hq
def specCol : Spec := fun
  | [.str s, .int .i64 rows], h => if s.length < 4611686018427387904 then some ⟨.int .i64 (colE rows s), h, []⟩ else none
  | _, _ => none
theorem col88 : SpecOK Tryz.prog gl 88 specCol := by
  intro xs h r hq
  unfold specCol at hq
  split at hq
  · split at hq
    · rename_i hl
      cases hq
      exact ent_run0 seat (T := [(158, specPix)]) (tab_cons pix158 tab_nil) (w88 mach_ft (fun _ _ => by rw [mach_ext]; rfl) _ _ hl) (FrL.same rfl) rfl (.inl rfl)
    · cases hq
  · cases hq
def specLetters : Spec := fun
  | [.str s], h => if s.length < 4611686018427387904 then some ⟨.bool (s.all pixB), h, []⟩ else none
  | _, _ => none
theorem c153 : C153 (mach Tryz.prog FT []) where
  ft := mach_ft
  n204 _ _ := rfl
  n205 _ _ := rfl
  n265 _ _ := rfl
  n311 _ _ := rfl
theorem letters153 : SpecOK Tryz.prog gl 153 specLetters := by
  intro xs h r hq
  unfold specLetters at hq
  split at hq
  · split at hq
    · rename_i hl
      cases hq
      exact ent_run0 seat tab_nil (w153 c153 _ hl) (FrL.same rfl) rfl (.inl rfl)
    · cases hq
  · cases hq
/-- A function of an image alone. -/
def specImg (f : Int → List Str → AV) : Spec := fun
  | [v], h => match imgAt h v with
    | some (rows, l) => if shortL l = true ∧ l.length < 1000000 then some ⟨f rows l, h, []⟩ else none
    | none => none
  | _, _ => none
theorem specImg_vs {f : Int → List Str → AV} {rows : Int} {l : List Str} {cap : Option Nat} {h : Heap} (hL : ∀ s ∈ l, s.length < 4611686018427387904) (hl : l.length < 1000000) : specImg f [.agg [.int .i64 rows, .vs (strs l) l.length cap]] h = some ⟨f rows l, h, []⟩ := by
  simp only [specImg, imgAt_vs]
  rw [if_pos ⟨shortL_of hL, hl⟩]
theorem specImg_ok {g : Nat} {f : Int → List Str → AV} {T : List (Nat × Spec)} (hT : ExtOK Tryz.prog gl (extS T)) (ht : ∀ rows l, (f rows l).top = 0) (hn : ∀ rows l, nov (f rows l) = true)
    (hr : ∀ rows l cap, (∀ s ∈ l, s.length < 4611686018427387904) → l.length < 1000000 → Run (mach Tryz.prog FT T) g [.agg [.int .i64 rows, .vs (strs l) l.length cap]] [] ⟨f rows l, [], []⟩) : SpecOK Tryz.prog gl g (specImg f) := by
  intro xs h r hq
  unfold specImg at hq
  split at hq
  · split at hq
    · rename_i rows l hi
      split at hq
      · rename_i hc
        cases hq
        obtain ⟨S, cap, hf⟩ := imgAt_fr hi
        exact ent_run0 seat hT (hr rows l cap (shortL_mem hc.1) hc.2) (.cons hf .nil) (ht _ _) (.inr (hn _ _))
      · cases hq
    · cases hq
  · cases hq
def fImgE (rows : Int) (l : List Str) : AV := .int .i64 (imgE rows l)
def TI18 : List (Nat × Spec) := [(87, specOut), (88, specCol)]
theorem TI18_ok : ExtOK Tryz.prog gl (extS TI18) := tab_cons out87 (tab_cons col88 tab_nil)
theorem c18 : C18 (mach Tryz.prog FT TI18) where
  ft := mach_ft
  c87 _ _ _ _ := by rw [mach_ext]; rfl
  c88 s rows h hl := by
    rw [mach_ext]
    show specCol [.str s, .int .i64 rows] h = _
    simp only [specCol, if_pos hl]
theorem check18 : SpecOK Tryz.prog gl 18 (specImg fImgE) := specImg_ok TI18_ok (fun _ _ => rfl) (fun _ _ => rfl) (fun rows l cap hL hl => w18 c18 rows l hL hl)
def TC70 : List (Nat × Spec) := [(91, specWhen), (121, specRange), (90, specFirst), (153, specLetters)]
theorem TC70_ok : ExtOK Tryz.prog gl (extS TC70) := tab_cons when91 (tab_cons range121 (tab_cons first90 (tab_cons letters153 tab_nil)))
theorem c70 : C70 (mach Tryz.prog FT TC70) where
  ft := mach_ft
  c91 _ _ _ := by rw [mach_ext]; rfl
  c121 _ _ _ _ := by rw [mach_ext]; rfl
  c90 v l h hl hn := by
    rw [mach_ext]
    show specFirst [v] h = _
    simp only [specFirst, hl, if_pos hn]
  c153 s h hl := by
    rw [mach_ext]
    show specLetters [.str s] h = _
    simp only [specLetters, if_pos hl]
theorem check70 : SpecOK Tryz.prog gl 70 (specImg fImgE) := specImg_ok TC70_ok (fun _ _ => rfl) (fun _ _ => rfl) (fun rows l cap hL hl => w70 c70 rows l hL hl)
/-- Short asks nothing. -/
def specShort : Spec := fun
  | [v], h => match imgAt h v with
    | some (_, l) => some ⟨.bool (shortB l), h, []⟩
    | none => none
  | _, _ => none
theorem short16 : SpecOK Tryz.prog gl 16 specShort := by
  intro xs h r hq
  unfold specShort at hq
  split at hq
  · split at hq
    · rename_i rows l hi
      cases hq
      obtain ⟨S, cap, hf⟩ := imgAt_fr hi
      exact ent_run0 seat tab_nil (w16 (M := mach Tryz.prog FT []) mach_ft rows l) (.cons hf .nil) rfl (.inr rfl)
    · cases hq
  · cases hq
theorem outside59 : SpecOK Tryz.prog gl 59 specRange := by
  intro xs h r hq
  unfold specRange at hq
  split at hq
  · cases hq
    exact ent_run0 seat (T := TO87) TO87_ok (w59 mach_ft (fun _ _ _ _ => by rw [mach_ext]; rfl) _ _ _) (FrL.same rfl) rfl (.inl rfl)
  · cases hq
def specIsAth : Spec := fun
  | [.str s], h => some ⟨.bool (athOf s).isSome, h, []⟩
  | _, _ => none
theorem isAth27 : SpecOK Tryz.prog gl 27 specIsAth := by
  intro xs h r hq
  unfold specIsAth at hq
  split at hq
  · cases hq
    exact ent_run0 seat tab_nil (w27 (M := mach Tryz.prog FT []) mach_ft _) (FrL.same rfl) rfl (.inl rfl)
  · cases hq
def specAthE : Spec := fun
  | [.str s], h => some ⟨.int .i64 (if (athOf s).isSome then 0 else 8), h, []⟩
  | _, _ => none
theorem athE97 : SpecOK Tryz.prog gl 97 specAthE := by
  intro xs h r hq
  unfold specAthE at hq
  split at hq
  · cases hq
    exact ent_run0 seat (T := [(91, specWhen)]) (tab_cons when91 tab_nil) (w97 mach_ft (fun _ _ _ => by rw [mach_ext]; rfl) _) (FrL.same rfl) rfl (.inl rfl)
  · cases hq

/-! First. -/
def specRefFirst : Spec := fun
  | [v, .int .u8 c], h => match imgAt h v with
    | some (_, l) => if shortL l = true ∧ l.length < 1000000 then some ⟨.int .i64 (firstCol c l 0), h, []⟩ else none
    | none => none
  | _, _ => none
theorem refFirst28 : SpecOK Tryz.prog gl 28 specRefFirst := by
  intro xs h r hq
  unfold specRefFirst at hq
  split at hq
  · split at hq
    · rename_i rows l hi
      split at hq
      · rename_i hc
        cases hq
        obtain ⟨S, cap, hf⟩ := imgAt_fr hi
        exact ent_run0 seat tab_nil (w28 (M := mach Tryz.prog FT []) mach_ft rows _ l (shortL_mem hc.1) hc.2) (.cons hf (.cons (.same rfl) .nil)) rfl (.inr rfl)
      · cases hq
    · cases hq
  · cases hq
theorem refFirst_vs {rows c : Int} {l : List Str} {cap : Option Nat} {h : Heap} (hL : ∀ s ∈ l, s.length < 4611686018427387904) (hl : l.length < 1000000) : specRefFirst [.agg [.int .i64 rows, .vs (strs l) l.length cap], .int .u8 c] h = some ⟨.int .i64 (firstCol c l 0), h, []⟩ := by
  simp only [specRefFirst, imgAt_vs]
  rw [if_pos ⟨shortL_of hL, hl⟩]
def specContains : Spec := fun
  | [.str s, .str [b]], h => some ⟨.bool (hasB b.toNat s), h, []⟩
  | _, _ => none
def T336 : List (Nat × Spec) := [(336, specX .index)]
theorem T336_ok : ExtOK Tryz.prog gl (extS T336) := tab_cons (specX_ok x336) tab_nil
theorem c162 : C162 (mach Tryz.prog FT T336) where
  ft := mach_ft
  n213 _ _ := rfl
  n270 _ _ := rfl
  n316 _ _ := rfl
  c336 _ _ _ := by rw [mach_ext]; rfl
theorem contains162 : SpecOK Tryz.prog gl 162 specContains := by
  intro xs h r hq
  unfold specContains at hq
  split at hq
  · cases hq
    exact ent_run0 seat T336_ok (w162 c162 _ _) (FrL.same rfl) rfl (.inl rfl)
  · cases hq
def specFind : Spec := fun
  | [v, .str [b]], h => match imgAt h v with
    | some (_, l) => if l.length < 1000000 then some ⟨.int .i64 (firstCol b.toNat l 0), h, []⟩ else none
    | none => none
  | _, _ => none
def T162 : List (Nat × Spec) := [(162, specContains)]
theorem find98 : SpecOK Tryz.prog gl 98 specFind := by
  intro xs h r hq
  unfold specFind at hq
  split at hq
  · split at hq
    · rename_i rows l hi
      split at hq
      · rename_i hc
        cases hq
        obtain ⟨S, cap, hf⟩ := imgAt_fr hi
        exact ent_run0 seat (T := T162) (tab_cons contains162 tab_nil) (w98 mach_ft (fun _ _ _ => by rw [mach_ext]; rfl) rows l _ hc) (.cons hf (.cons (.same rfl) .nil)) rfl (.inr rfl)
      · cases hq
    · cases hq
  · cases hq
def TC56 : List (Nat × Spec) := [(90, specFirst), (70, specImg fImgE), (97, specAthE), (98, specFind)]
theorem TC56_ok : ExtOK Tryz.prog gl (extS TC56) := tab_cons first90 (tab_cons check70 (tab_cons athE97 (tab_cons find98 tab_nil)))
theorem c56 : C56 (mach Tryz.prog FT TC56) where
  ft := mach_ft
  c90 v l h hl hn := by
    rw [mach_ext]
    show specFirst [v] h = _
    simp only [specFirst, hl, if_pos hn]
  c70 rows l cap h hL hl := by rw [mach_ext]; exact specImg_vs hL hl
  c97 _ _ := by rw [mach_ext]; rfl
  c98 rows l cap b h hl := by
    rw [mach_ext]
    show specFind [.agg [.int .i64 rows, .vs (strs l) l.length cap], .str [b]] h = _
    simp only [specFind, imgAt_vs, if_pos hl]
def specFirstOf : Spec := fun
  | [v, .str s], h => match imgAt h v with
    | some (rows, l) => if shortL l = true ∧ l.length < 1000000 then some ⟨.tup [.int .i64 (firstR rows l s).1, .int .i64 (firstR rows l s).2], h, []⟩ else none
    | none => none
  | _, _ => none
theorem first56 : SpecOK Tryz.prog gl 56 specFirstOf := by
  intro xs h r hq
  unfold specFirstOf at hq
  split at hq
  · split at hq
    · rename_i rows l hi
      split at hq
      · rename_i hc
        cases hq
        obtain ⟨S, cap, hf⟩ := imgAt_fr hi
        exact ent_run0 seat TC56_ok (w56 c56 rows l _ (shortL_mem hc.1) hc.2) (.cons hf (.cons (.same rfl) .nil)) rfl (.inr rfl)
      · cases hq
    · cases hq
  · cases hq

/-! Torsos. -/
def fTors (rows : Int) (l : List Str) : AV := .agg (ints (firsts26 l))
theorem torsos115 : SpecOK Tryz.prog gl 115 (specImg fTors) := specImg_ok (T := []) tab_nil (fun _ _ => agg_top _) (fun _ l => by show nov (.agg (ints (firsts26 l))) = true; simp only [nov]; exact novL_ints _) (fun rows l cap hL hl => by
  have := w115 (M := mach Tryz.prog FT []) (cap := cap) mach_ft rows l hL hl
  rw [torsos_eq] at this
  exact this)
/-- A new list of texts, or nil. -/
def outHR (h : Heap) (l : List Str) : HR := if l = [] then ⟨.nilsl, h, []⟩ else ⟨.sl h.length 0 l.length 1 none, h ++ [some (.cells (strs l) 9)], []⟩
def decAgg : AV → Option (List Int)
  | .agg c => decInts c
  | _ => none
def specNames : Spec := fun
  | [v], h => match decAgg v with
    | some A => if A.length = 26 then some (outHR h (namesL A 0)) else none
    | none => none
  | _, _ => none
theorem names136 : SpecOK Tryz.prog gl 136 specNames := by
  intro xs h r hq
  unfold specNames at hq
  split at hq
  · rename_i v
    split at hq
    · rename_i A hd
      split at hq
      · rename_i hA
        obtain rfl : v = .agg (ints A) := by
          cases v <;> simp only [decAgg] at hd <;> try (cases hd; done)
          rw [decInts_eq hd]
        obtain ⟨v, hh, ho, hr⟩ := w136 (M := mach Tryz.prog FT []) mach_ft A hA
        have hf : FrL h [] [.agg (ints A)] [.agg (ints A)] := FrL.same (by simp only [topL, agg_top]; rfl)
        rcases ho with ⟨h1, rfl⟩ | ⟨c, h0, rfl, h2⟩
        · rw [outHR, if_pos h1] at hq
          cases hq
          exact ent_run0 seat tab_nil hr hf rfl (.inl rfl)
        · rw [outHR, if_neg h0] at hq
          cases hq
          exact ent_run1 seat tab_nil hr hf (k := c) (.sl (i := 0) rfl) h2 (Go.Ab.strs_top _) (.inl rfl) (.inl rfl)
      · cases hq
    · cases hq
  · cases hq
def TC55 : List (Nat × Spec) := [(70, specImg fImgE), (115, specImg fTors), (136, specNames)]
theorem TC55_ok : ExtOK Tryz.prog gl (extS TC55) := tab_cons check70 (tab_cons torsos115 (tab_cons names136 tab_nil))
theorem c55 : C55 (mach Tryz.prog FT TC55) where
  ft := mach_ft
  c70 rows l cap h hL hl := by rw [mach_ext]; exact specImg_vs hL hl
  c115 rows l cap h hL hl := by rw [mach_ext]; exact specImg_vs hL hl
  c136n A h hA hN := by
    rw [mach_ext]
    show specNames [.agg (ints A)] h = _
    simp only [specNames, decAgg, decInts_ints, if_pos hA, outHR, if_pos hN]
  c136s A h hA hN := by
    rw [mach_ext]
    show specNames [.agg (ints A)] h = _
    simp only [specNames, decAgg, decInts_ints, if_pos hA, outHR, if_neg hN]
def specTorsos : Spec := fun
  | [v], h => match imgAt h v with
    | some (rows, l) => if shortL l = true ∧ l.length < 1000000 then
        if imgE rows l ≠ 0 then some ⟨.tup [.nilsl, .int .i64 (imgE rows l)], h, []⟩
        else some (if namesL (firsts26 l) 0 = [] then ⟨.tup [.nilsl, .int .i64 0], h, []⟩ else ⟨.tup [.sl h.length 0 (namesL (firsts26 l) 0).length 1 none, .int .i64 0], h ++ [some (.cells (strs (namesL (firsts26 l) 0)) 9)], []⟩)
      else none
    | none => none
  | _, _ => none
theorem torsos55 : SpecOK Tryz.prog gl 55 specTorsos := by
  intro xs h r hq
  unfold specTorsos at hq
  split at hq
  · split at hq
    · rename_i rows l hi
      split at hq
      · rename_i hc
        obtain ⟨S, cap, hf⟩ := imgAt_fr hi
        split at hq
        · rename_i hE
          cases hq
          exact ent_run0 seat TC55_ok (w55e c55 rows l (shortL_mem hc.1) hc.2 hE) (.cons hf .nil) rfl (.inr rfl)
        · rename_i hE
          obtain ⟨v, hh, ho, hr⟩ := w55 (cap := cap) c55 rows l (shortL_mem hc.1) hc.2 (Decidable.not_not.1 hE)
          rcases ho with ⟨h1, rfl⟩ | ⟨c, h0, rfl, h2⟩
          · rw [if_pos h1] at hq
            cases hq
            exact ent_run0 seat TC55_ok hr (.cons hf .nil) rfl (.inr rfl)
          · rw [if_neg h0] at hq
            cases hq
            refine ent_run1 seat TC55_ok hr (.cons hf .nil) (k := c) (.tup rfl fun i x y hx hy => ?_) h2 (Go.Ab.strs_top _) (.inr (novL_strs _)) (.inr rfl)
            match i, hx, hy with
            | 0, hx, hy => cases hx; cases hy; exact .sl (i := 0) rfl
            | 1, hx, hy => cases hx; cases hy; exact .same rfl
      · cases hq
    · cases hq
  · cases hq
/-- A function of an image that hands back a new list. -/
def specOutL (f : List Str → List Str) : Spec := fun
  | [v], h => match imgAt h v with
    | some (_, l) => if shortL l = true ∧ l.length < 1000000 then some (outHR h (f l)) else none
    | none => none
  | _, _ => none
def TI28 : List (Nat × Spec) := [(28, specRefFirst)]
theorem refTorsos73 : SpecOK Tryz.prog gl 73 (specOutL fun l => namesL (firsts26 l) 0) := by
  intro xs h r hq
  unfold specOutL at hq
  split at hq
  · split at hq
    · rename_i rows l hi
      split at hq
      · rename_i hc
        obtain ⟨S, cap, hf⟩ := imgAt_fr hi
        obtain ⟨v, hh, ho, hr⟩ := w73 (M := mach Tryz.prog FT TI28) (cap := cap) mach_ft (fun rows l cap c h hL hl => by rw [mach_ext]; exact refFirst_vs hL hl) rows l (shortL_mem hc.1) hc.2
        have hT : ExtOK Tryz.prog gl (extS TI28) := tab_cons refFirst28 tab_nil
        rcases ho with ⟨h1, rfl⟩ | ⟨c, h0, rfl, h2⟩
        · rw [outHR, if_pos h1] at hq
          cases hq
          exact ent_run0 seat hT hr (.cons hf .nil) rfl (.inr rfl)
        · rw [outHR, if_neg h0] at hq
          cases hq
          exact ent_run1 seat hT hr (.cons hf .nil) (k := c) (.sl (i := 0) rfl) h2 (Go.Ab.strs_top _) (.inr (novL_strs _)) (.inr rfl)
      · cases hq
    · cases hq
  · cases hq

/-! Mirrored, Stretched. -/
def specRev : Spec := fun
  | [v], h => match strsAt h v with
    | some l => if l ≠ [] ∧ l.length < 1000000 then some ⟨.sl h.length 0 l.length 1 none, h ++ [some (.cells (strs l.reverse) 9)], []⟩ else none
    | none => none
  | _, _ => none
theorem rev154 : SpecOK Tryz.prog gl 154 specRev := by
  intro xs h r hq
  unfold specRev at hq
  split at hq
  · split at hq
    · rename_i l hi
      split at hq
      · rename_i hc
        cases hq
        obtain ⟨S, cap, hf⟩ := (strsAt_sl hi).fr (fun _ => rfl)
        exact ent_run1 seat tab_nil (w154 (M := mach Tryz.prog FT []) mach_ft (fun _ _ => rfl) (fun _ _ => rfl) l hc.1 hc.2) (.cons hf .nil) (k := 1) (.sl (i := 0) rfl) rfl (Go.Ab.strs_top _) (.inr (novL_strs _)) (.inr rfl)
      · cases hq
    · cases hq
  · cases hq
def TC71 : List (Nat × Spec) := [(70, specImg fImgE), (154, specRev)]
theorem TC71_ok : ExtOK Tryz.prog gl (extS TC71) := tab_cons check70 (tab_cons rev154 tab_nil)
theorem c71 : C71 (mach Tryz.prog FT TC71) where
  ft := mach_ft
  c70 rows l cap h hL hl := by rw [mach_ext]; exact specImg_vs hL hl
  c154 l cap h hne hl := by
    rw [mach_ext]
    show specRev [.vs (strs l) l.length cap] h = _
    simp only [specRev, strsAt_vs]
    rw [if_pos ⟨hne, hl⟩]
def specMirrored : Spec := fun
  | [v], h => match imgAt h v with
    | some (rows, l) => if shortL l = true ∧ l.length < 1000000 then
        some (if imgE rows l ≠ 0 then ⟨.tup [.agg [.int .i64 0, .nilsl], .int .i64 (imgE rows l)], h, []⟩
        else ⟨.tup [.agg [.int .i64 rows, .sl h.length 0 l.reverse.length 1 none], .int .i64 0], h ++ [some (.cells (strs l.reverse) 9)], []⟩)
      else none
    | none => none
  | _, _ => none
theorem rn_img {k n : Nat} {r : Int} {h : Heap} : Rn [k] h.length (.tup [.agg [.int .i64 r, .sl k 0 n 1 none], .int .i64 0]) (.tup [.agg [.int .i64 r, .sl h.length 0 n 1 none], .int .i64 0]) := by
  refine .tup rfl fun i x y hx hy => ?_
  match i, hx, hy with
  | 0, hx, hy =>
    cases hx; cases hy
    refine .agg rfl fun i x y hx hy => ?_
    match i, hx, hy with
    | 0, hx, hy => cases hx; cases hy; exact .same rfl
    | 1, hx, hy => cases hx; cases hy; exact .sl (i := 0) rfl
  | 1, hx, hy => cases hx; cases hy; exact .same rfl
theorem rn_img1 {k n : Nat} {r : Int} {h : Heap} : Rn [k] h.length (.agg [.int .i64 r, .sl k 0 n 1 none]) (.agg [.int .i64 r, .sl h.length 0 n 1 none]) := by
  refine .agg rfl fun i x y hx hy => ?_
  match i, hx, hy with
  | 0, hx, hy => cases hx; cases hy; exact .same rfl
  | 1, hx, hy => cases hx; cases hy; exact .sl (i := 0) rfl
theorem mirrored71 : SpecOK Tryz.prog gl 71 specMirrored := by
  intro xs h r hq
  unfold specMirrored at hq
  split at hq
  · split at hq
    · rename_i rows l hi
      split at hq
      · rename_i hc
        obtain ⟨S, cap, hf⟩ := imgAt_fr hi
        by_cases hE : imgE rows l ≠ 0
        · rw [if_pos hE] at hq
          cases hq
          exact ent_run0 seat TC71_ok (w71e c71 rows l (shortL_mem hc.1) hc.2 hE) (.cons hf .nil) rfl (.inr rfl)
        · rw [if_neg hE] at hq
          cases hq
          have hr := w71 (cap := cap) c71 rows l (shortL_mem hc.1) hc.2 (Decidable.not_not.1 hE)
          rw [List.length_reverse]
          exact ent_run1 seat TC71_ok hr (.cons hf .nil) (k := 2) rn_img rfl (Go.Ab.strs_top _) (.inr (novL_strs _)) (.inr rfl)
      · cases hq
    · cases hq
  · cases hq
def specRefMirrored : Spec := fun
  | [v], h => match imgAt h v with
    | some (rows, l) => if l.length < 1000000 ∧ l ≠ [] then some ⟨.agg [.int .i64 rows, .sl h.length 0 l.reverse.length 1 none], h ++ [some (.cells (strs l.reverse) 9)], []⟩ else none
    | none => none
  | _, _ => none
theorem refMirrored74 : SpecOK Tryz.prog gl 74 specRefMirrored := by
  intro xs h r hq
  unfold specRefMirrored at hq
  split at hq
  · split at hq
    · rename_i rows l hi
      split at hq
      · rename_i hc
        cases hq
        obtain ⟨S, cap, hf⟩ := imgAt_fr hi
        obtain ⟨o, hh, ho, hr⟩ := w74 (M := mach Tryz.prog FT []) (cap := cap) mach_ft rows l hc.1
        rcases ho with ⟨h1, rfl⟩ | ⟨c, h0, rfl, h2⟩
        · exact absurd (by simpa using h1) hc.2
        · exact ent_run1 seat tab_nil hr (.cons hf .nil) (k := c) rn_img1 h2 (Go.Ab.strs_top _) (.inr (novL_strs _)) (.inr rfl)
      · cases hq
    · cases hq
  · cases hq
def specMul64 : Spec := fun
  | [.int .u64 x, .int .u64 t], h => if x = 1 ∧ 0 ≤ t ∧ t ≤ 4096 then some ⟨.tup [.int .u64 0, .int .u64 t], h, []⟩ else none
  | _, _ => none
theorem mul259 : SpecOK Tryz.prog gl 259 specMul64 := by
  intro xs h r hq
  unfold specMul64 at hq
  split at hq
  · rename_i x t
    split at hq
    · rename_i hc
      obtain ⟨rfl, h0, h1⟩ := hc
      obtain ⟨t, rfl⟩ := Int.eq_ofNat_of_zero_le h0
      cases hq
      exact ent_run0 seat tab_nil (w259 (M := mach Tryz.prog FT []) mach_ft t (by omega)) (FrL.same rfl) rfl (.inl rfl)
    · cases hq
  · cases hq
theorem mul64_eq (t : Nat) (h : Heap) (ht : t ≤ 4096) : specMul64 [.int .u64 1, .int .u64 t] h = some ⟨.tup [.int .u64 0, .int .u64 t], h, []⟩ := by
  show (if _ then _ else _) = _
  rw [if_pos ⟨rfl, by omega, by omega⟩]
theorem mul203 : SpecOK Tryz.prog gl 203 specMul64 := by
  intro xs h r hq
  unfold specMul64 at hq
  split at hq
  · rename_i x t
    split at hq
    · rename_i hc
      obtain ⟨rfl, h0, h1⟩ := hc
      obtain ⟨t, rfl⟩ := Int.eq_ofNat_of_zero_le h0
      cases hq
      exact ent_run0 seat (T := [(259, specMul64)]) (tab_cons mul259 tab_nil) (w203 mach_ft (fun t h ht => by rw [mach_ext]; exact mul64_eq t h ht) t (by omega)) (FrL.same rfl) rfl (.inl rfl)
    · cases hq
  · cases hq
def specRepeat : Spec := fun
  | [v, .int .i64 t], h => match strsAt h v with
    | some [s] => if 1 ≤ t ∧ t ≤ 4096 then some ⟨.sl h.length 0 t.toNat 1 (some t.toNat), h ++ [some (.cells (strs (List.replicate t.toNat s)) 9)], []⟩ else none
    | _ => none
  | _, _ => none
theorem repeat150 : SpecOK Tryz.prog gl 150 specRepeat := by
  intro xs h r hq
  unfold specRepeat at hq
  split at hq
  · rename_i v t
    split at hq
    · rename_i s hi
      split at hq
      · rename_i hc
        cases hq
        obtain ⟨t, rfl⟩ := Int.eq_ofNat_of_zero_le (show 0 ≤ t by omega)
        obtain ⟨S, cap, hf⟩ := (strsAt_sl hi).fr (fun _ => rfl)
        exact ent_run1 seat (T := [(203, specMul64)]) (tab_cons mul203 tab_nil) (w150 (cap := cap) mach_ft (fun t h ht => by rw [mach_ext]; exact mul64_eq t h ht) s t (by omega) (by omega)) (.cons hf (.cons (.same rfl) .nil)) (k := 0) (.sl (i := 0) rfl) rfl (Go.Ab.strs_top _) (.inr (novL_strs _)) (.inr rfl)
      · cases hq
    · cases hq
  · cases hq
def TC66 : List (Nat × Spec) := [(91, specWhen), (121, specRange), (90, specFirst), (70, specImg fImgE), (150, specRepeat)]
theorem TC66_ok : ExtOK Tryz.prog gl (extS TC66) := tab_cons when91 (tab_cons range121 (tab_cons first90 (tab_cons check70 (tab_cons repeat150 tab_nil))))
theorem c66 : C66 (mach Tryz.prog FT TC66) where
  ft := mach_ft
  c91 _ _ _ := by rw [mach_ext]; rfl
  c121 _ _ _ _ := by rw [mach_ext]; rfl
  c90 v l h hl hn := by
    rw [mach_ext]
    show specFirst [v] h = _
    simp only [specFirst, hl, if_pos hn]
  c70 rows l cap h hL hl := by rw [mach_ext]; exact specImg_vs hL hl
  c150 H s t h1 ht := by
    rw [mach_ext]
    show specRepeat [.sl H.length 0 1 1 (some 1), .int .i64 t] (H ++ [some (.cells [.str s] 9)]) = _
    have e : Heap.at (H ++ [some (.cells [.str s] 9)]) H.length = some (.cells (strs [s]) 9) := at_new
    have e1 : strsAt (H ++ [some (.cells [.str s] 9)]) (.sl H.length 0 1 1 (some 1)) = some [s] := strs_at e rfl
    simp only [specRepeat, e1]
    rw [if_pos (by omega), Int.toNat_natCast]
def specStretched : Spec := fun
  | [v, .int .i64 t], h => match imgAt h v with
    | some (rows, l) => if shortL l = true ∧ l.length < 1000000 then
        if strE rows l t ≠ 0 then some ⟨.tup [.agg [.int .i64 0, .nilsl], .int .i64 (strE rows l t)], h, []⟩
        else if 1 ≤ t ∧ t ≤ 4096 then some ⟨.tup [.agg [.int .i64 rows, .sl h.length 0 (strL t.toNat l).length 1 none], .int .i64 0], h ++ [some (.cells (strs (strL t.toNat l)) 9)], []⟩ else none
      else none
    | none => none
  | _, _ => none
theorem strL_ne {t : Nat} {l : List Str} (ht : 1 ≤ t) (hl : l ≠ []) : strL t l ≠ [] := fun e => by
  have h1 := strL_len t l
  rw [e] at h1
  have h2 : 0 < l.length := List.length_pos_iff.2 hl
  have h3 : 0 < l.length * t := Nat.mul_pos h2 (by omega)
  simp at h1
  omega
theorem strE_img {rows t : Int} {l : List Str} (h : strE rows l t = 0) : imgE rows l = 0 := by
  unfold strE at h
  split at h
  · rename_i h1; exact absurd h h1
  · rename_i h1; exact Decidable.not_not.1 h1
theorem stretched66 : SpecOK Tryz.prog gl 66 specStretched := by
  intro xs h r hq
  unfold specStretched at hq
  split at hq
  · rename_i v t
    split at hq
    · rename_i rows l hi
      split at hq
      · rename_i hc
        obtain ⟨S, cap, hf⟩ := imgAt_fr hi
        split at hq
        · rename_i hE
          cases hq
          exact ent_run0 seat TC66_ok (w66e c66 rows l t (shortL_mem hc.1) hc.2 hE) (.cons hf (.cons (.same rfl) .nil)) rfl (.inr rfl)
        · rename_i hE
          split at hq
          · rename_i ht
            cases hq
            obtain ⟨t, rfl⟩ := Int.eq_ofNat_of_zero_le (show 0 ≤ t by omega)
            have hE := Decidable.not_not.1 hE
            obtain ⟨o, hh, ho, hr⟩ := w66 (cap := cap) c66 rows l t (shortL_mem hc.1) hc.2 (by omega) (by omega) hE
            rw [Int.toNat_natCast]
            rcases ho with ⟨h1, rfl⟩ | ⟨c, h0, rfl, h2⟩
            · exact absurd h1 (strL_ne (by omega) (imgE_ne (strE_img hE)))
            · exact ent_run1 seat TC66_ok hr (.cons hf (.cons (.same rfl) .nil)) (k := c) rn_img h2 (Go.Ab.strs_top _) (.inr (novL_strs _)) (.inr rfl)
          · cases hq
      · cases hq
    · cases hq
  · cases hq
def specRefStretched : Spec := fun
  | [v, .int .i64 t], h => match imgAt h v with
    | some (rows, l) => if 0 ≤ t ∧ l.length < 1000000 ∧ l.length * t.toNat < 1000000 ∧ strL t.toNat l ≠ [] then some ⟨.agg [.int .i64 rows, .sl h.length 0 (strL t.toNat l).length 1 none], h ++ [some (.cells (strs (strL t.toNat l)) 9)], []⟩ else none
    | none => none
  | _, _ => none
theorem refStretched75 : SpecOK Tryz.prog gl 75 specRefStretched := by
  intro xs h r hq
  unfold specRefStretched at hq
  split at hq
  · rename_i v t
    split at hq
    · rename_i rows l hi
      split at hq
      · rename_i hc
        obtain ⟨h0, h1, h2, h3⟩ := hc
        obtain ⟨t, rfl⟩ := Int.eq_ofNat_of_zero_le h0
        rw [Int.toNat_natCast] at h2 h3 hq
        cases hq
        obtain ⟨S, cap, hf⟩ := imgAt_fr hi
        obtain ⟨o, hh, ho, hr⟩ := w75 (M := mach Tryz.prog FT []) (cap := cap) mach_ft rows t l h1 h2
        rcases ho with ⟨g1, rfl⟩ | ⟨c, g0, rfl, g2⟩
        · exact absurd g1 h3
        · exact ent_run1 seat tab_nil hr (.cons hf (.cons (.same rfl) .nil)) (k := c) rn_img1 g2 (Go.Ab.strs_top _) (.inr (novL_strs _)) (.inr rfl)
      · cases hq
    · cases hq
  · cases hq

/-! The same. -/
theorem two_frS {h : Heap} {x y : AV} {l m : List Str} (hx : strsAt h x = some l) (hy : strsAt h y = some m) : ∃ S c1 c2, Fr h S x (.vs (strs l) l.length c1) ∧ Fr h S y (.vs (strs m) m.length c2) :=
  let ⟨S1, c1, f1⟩ := (strsAt_sl hx).fr (fun _ => rfl)
  let ⟨S2, c2, f2⟩ := (strsAt_sl hy).fr (fun _ => rfl)
  ⟨S1 ++ S2, c1, c2, f1.mono (fun _ hb => List.mem_append_left _ hb), f2.mono (fun _ hb => List.mem_append_right _ hb)⟩
def specSameS : Spec := fun
  | [x, y], h => match strsAt h x, strsAt h y with
    | some l, some m => if l.length < 4611686018427387904 then some ⟨.bool (decide (l = m)), h, []⟩ else none
    | _, _ => none
  | _, _ => none
theorem same79 : SpecOK Tryz.prog gl 79 specSameS := by
  intro xs h r hq
  unfold specSameS at hq
  split at hq
  · split at hq
    · rename_i l m hl hm
      split at hq
      · rename_i hlen
        cases hq
        obtain ⟨S, c1, c2, f1, f2⟩ := two_frS hl hm
        exact ent_run0 seat tab_nil (w79 (M := mach Tryz.prog FT []) mach_ft l m c1 c2 hlen) (.cons f1 (.cons f2 .nil)) rfl (.inr rfl)
      · cases hq
    · cases hq
  · cases hq
def T79 : List (Nat × Spec) := [(79, specSameS)]
theorem T79_ok : ExtOK Tryz.prog gl (extS T79) := tab_cons same79 tab_nil
theorem sameS_vs {l m : List Str} {c1 c2 : Option Nat} {h : Heap} (hl : l.length < 4611686018427387904) : specSameS [.vs (strs l) l.length c1, .vs (strs m) m.length c2] h = some ⟨.bool (decide (l = m)), h, []⟩ := by
  simp only [specSameS, strsAt_vs, if_pos hl]
def specWords : Spec := fun
  | [x, .int .i64 e, .int .i64 bad, y], h => match strsAt h x, strsAt h y with
    | some l, some m => if l.length < 4611686018427387904 then some ⟨.bool (wordsB l m e bad), h, []⟩ else none
    | _, _ => none
  | _, _ => none
theorem words72 : SpecOK Tryz.prog gl 72 specWords := by
  intro xs h r hq
  unfold specWords at hq
  split at hq
  · split at hq
    · rename_i l m hl hm
      split at hq
      · rename_i hlen
        cases hq
        obtain ⟨S, c1, c2, f1, f2⟩ := two_frS hl hm
        exact ent_run0 seat T79_ok (w72 mach_ft l m _ _ c1 c2 fun hp => by rw [mach_ext]; exact sameS_vs hlen) (.cons f1 (.cons (.same rfl) (.cons (.same rfl) (.cons f2 .nil)))) rfl (.inr rfl)
      · cases hq
    · cases hq
  · cases hq
def specSameI : Spec := fun
  | [.agg [.int .i64 r, x], .agg [.int .i64 r', y]], h => match strsAt h x, strsAt h y with
    | some l, some m => if l.length < 4611686018427387904 then some ⟨.bool (decide (r = r' ∧ l = m)), h, []⟩ else none
    | _, _ => none
  | _, _ => none
theorem same76 : SpecOK Tryz.prog gl 76 specSameI := by
  intro xs h r hq
  unfold specSameI at hq
  split at hq
  · split at hq
    · rename_i l m hl hm
      split at hq
      · rename_i hlen
        cases hq
        obtain ⟨S, c1, c2, f1, f2⟩ := two_frS hl hm
        exact ent_run0 seat T79_ok (w76 mach_ft _ _ l m c1 c2 fun hp => by rw [mach_ext]; exact sameS_vs hlen) (.cons (Fr.agg2 f1) (.cons (Fr.agg2 f2) .nil)) rfl (.inr rfl)
      · cases hq
    · cases hq
  · cases hq
def specImage : Spec := fun
  | [.agg [.int .i64 r, x], .int .i64 e, .int .i64 bad, .agg [.int .i64 r', y]], h => match strsAt h x, strsAt h y with
    | some l, some m => if l.length < 4611686018427387904 then some ⟨.bool (imageB r l r' m e bad), h, []⟩ else none
    | _, _ => none
  | _, _ => none
def T76 : List (Nat × Spec) := [(76, specSameI)]
theorem image23 : SpecOK Tryz.prog gl 23 specImage := by
  intro xs h r hq
  unfold specImage at hq
  split at hq
  · split at hq
    · rename_i l m hl hm
      split at hq
      · rename_i hlen
        cases hq
        obtain ⟨S, c1, c2, f1, f2⟩ := two_frS hl hm
        refine ent_run0 seat (T := T76) (tab_cons same76 tab_nil) (w23 mach_ft _ _ l m _ _ c1 c2 fun hp => ?_) (.cons (Fr.agg2 f1) (.cons (.same rfl) (.cons (.same rfl) (.cons (Fr.agg2 f2) .nil)))) rfl (.inr rfl)
        rw [mach_ext]
        show specSameI [.agg [.int .i64 _, .vs (strs l) l.length c1], .agg [.int .i64 _, .vs (strs m) m.length c2]] hp = _
        simp only [specSameI, strsAt_vs, if_pos hlen]
      · cases hq
    · cases hq
  · cases hq

def TImages : List (Nat × Spec) := [(15, specAwake), (16, specShort), (18, specImg fImgE), (70, specImg fImgE), (55, specTorsos), (56, specFirstOf), (71, specMirrored), (66, specStretched), (72, specWords), (42, specInteger), (23, specImage), (73, specOutL fun l => namesL (firsts26 l) 0), (74, specRefMirrored), (75, specRefStretched), (59, specRange), (20, specWhen), (27, specIsAth), (28, specRefFirst)]
theorem TImages_ok : ExtOK Tryz.prog gl (extS TImages) := tab_cons awake15 (tab_cons short16 (tab_cons check18 (tab_cons check70 (tab_cons torsos55 (tab_cons first56 (tab_cons mirrored71 (tab_cons stretched66 (tab_cons words72 (tab_cons integer42 (tab_cons image23 (tab_cons refTorsos73 (tab_cons refMirrored74 (tab_cons refStretched75 (tab_cons outside59 (tab_cons when20 (tab_cons isAth27 (tab_cons refFirst28 tab_nil)))))))))))))))))
theorem calls13 : Calls13 (mach Tryz.prog FT TImages) where
  c15 _ := by rw [mach_ext]; rfl
  c16 rows l cap h := by
    rw [mach_ext]
    show specShort [.agg [.int .i64 rows, .vs (strs l) l.length cap]] h = _
    simp only [specShort, imgAt_vs]
  c18 rows l cap h hL hl := by rw [mach_ext]; exact specImg_vs hL hl
  c70 rows l cap h hL hl := by rw [mach_ext]; exact specImg_vs hL hl
  c55e rows l cap h hL hl hE := by
    rw [mach_ext]
    show specTorsos [.agg [.int .i64 rows, .vs (strs l) l.length cap]] h = _
    simp only [specTorsos, imgAt_vs]
    rw [if_pos ⟨shortL_of hL, hl⟩, if_pos hE]
  c55n rows l cap h hL hl hE hN := by
    rw [mach_ext]
    show specTorsos [.agg [.int .i64 rows, .vs (strs l) l.length cap]] h = _
    simp only [specTorsos, imgAt_vs]
    rw [if_pos ⟨shortL_of hL, hl⟩, if_neg (fun h => h hE), if_pos hN]
  c55s rows l cap h hL hl hE hN := by
    rw [mach_ext]
    show specTorsos [.agg [.int .i64 rows, .vs (strs l) l.length cap]] h = _
    simp only [specTorsos, imgAt_vs]
    rw [if_pos ⟨shortL_of hL, hl⟩, if_neg (fun h => h hE), if_neg hN]
  c56 rows l cap s h hL hl := by
    rw [mach_ext]
    show specFirstOf [.agg [.int .i64 rows, .vs (strs l) l.length cap], .str s] h = _
    simp only [specFirstOf, imgAt_vs]
    rw [if_pos ⟨shortL_of hL, hl⟩]
  c71e rows l cap h hL hl hE := by
    rw [mach_ext]
    show specMirrored [.agg [.int .i64 rows, .vs (strs l) l.length cap]] h = _
    simp only [specMirrored, imgAt_vs]
    rw [if_pos ⟨shortL_of hL, hl⟩, if_pos hE]
  c71 rows l cap h hL hl hE := by
    rw [mach_ext]
    show specMirrored [.agg [.int .i64 rows, .vs (strs l) l.length cap]] h = _
    simp only [specMirrored, imgAt_vs]
    rw [if_pos ⟨shortL_of hL, hl⟩, if_neg (fun h => h hE)]
  c66e rows l cap t h hL hl hE := by
    rw [mach_ext]
    show specStretched [.agg [.int .i64 rows, .vs (strs l) l.length cap], .int .i64 t] h = _
    simp only [specStretched, imgAt_vs]
    rw [if_pos ⟨shortL_of hL, hl⟩, if_pos hE]
  c66 rows l cap t h hL hl h1 ht hE := by
    rw [mach_ext]
    show specStretched [.agg [.int .i64 rows, .vs (strs l) l.length cap], .int .i64 t] h = _
    simp only [specStretched, imgAt_vs]
    rw [if_pos ⟨shortL_of hL, hl⟩, if_neg (fun h => h hE), if_pos (by omega), Int.toNat_natCast]
  c72 x y l m e bad h hx hy hl := by
    rw [mach_ext]
    show specWords [x, .int .i64 e, .int .i64 bad, y] h = _
    simp only [specWords, hx, hy, if_pos hl]
  c42 _ _ _ _ _ := by rw [mach_ext]; rfl
  c23 r r' x y l m e bad h hx hy hl := by
    rw [mach_ext]
    show specImage [.agg [.int .i64 r, x], .int .i64 e, .int .i64 bad, .agg [.int .i64 r', y]] h = _
    simp only [specImage, hx, hy, if_pos hl]
  c73n rows l cap h hL hl hN := by
    rw [mach_ext]
    show specOutL (fun l => namesL (firsts26 l) 0) [.agg [.int .i64 rows, .vs (strs l) l.length cap]] h = _
    simp only [specOutL, imgAt_vs]
    rw [if_pos ⟨shortL_of hL, hl⟩, outHR, if_pos hN]
  c73s rows l cap h hL hl hN := by
    rw [mach_ext]
    show specOutL (fun l => namesL (firsts26 l) 0) [.agg [.int .i64 rows, .vs (strs l) l.length cap]] h = _
    simp only [specOutL, imgAt_vs]
    rw [if_pos ⟨shortL_of hL, hl⟩, outHR, if_neg hN]
  c74 rows l cap h hl hne := by
    rw [mach_ext]
    show specRefMirrored [.agg [.int .i64 rows, .vs (strs l) l.length cap]] h = _
    simp only [specRefMirrored, imgAt_vs]
    rw [if_pos ⟨hl, hne⟩]
  c75 rows l cap t h hl hB hne := by
    rw [mach_ext]
    show specRefStretched [.agg [.int .i64 rows, .vs (strs l) l.length cap], .int .i64 t] h = _
    simp only [specRefStretched, imgAt_vs, Int.toNat_natCast]
    rw [if_pos ⟨by omega, hl, hB, hne⟩]
  c59 _ _ _ _ := by rw [mach_ext]; rfl
  c20 _ _ _ := by rw [mach_ext]; rfl
  c27 _ _ := by rw [mach_ext]; rfl
  c28 rows l cap c h hL hl := by rw [mach_ext]; exact refFirst_vs hL hl
end Go.Ab.Ch5


/-
  Own work: arguments that are slices of strings, or images, as the abstract machine sees them.
-/
namespace Go.Ab.Ch5
open Go.Proofs
open Go.ChangeShapes Go.WideShapes Go.RowKit
variable {H : Type} {enc : TypeId × Value → H} {P : Program} {W : World} {base : Nat} {sp : Nat → Bool} {t e : TypeId} {v : Value} {d : DataW H} {ps : List MemPlace}

theorem v_strs_cells (ht : P.underlying t = some (.slice e)) (he : P.underlying e = some .string) (hc : P.cellsOf e = 1) {c : Value} (hval : Cell.okWide P W .any base t c) {fuel : Nat} {x : DataW H × List MemPlace} (hf : DataW.trod enc P W 0 sp true fuel t [c] = some x) : ∃ l : List Str, V bare W (.vs (strs l) l.length none) c := by
  rcases Go.Deep.open_strs ht he hc hf with ⟨hcs, _⟩ | ⟨a, len, cap, m, Sx, hcs, _, hle, _, hm, _, hcell⟩
  · simp only [List.cons.injEq, and_true] at hcs
    subst hcs
    exact ⟨[], .vsN (fun n hn => by cases hn)⟩
  · simp only [List.cons.injEq, and_true] at hcs
    subst hcs
    have hs : a.spot = none := by
      simp only [ht, Cell.okWide, Cell.ok, World.has] at hval
      exact hval.2.2.2.1
    obtain ⟨b, off, spot⟩ := a
    simp only at hs
    subst hs
    have hlen : len ≤ m := by rw [hm]; split <;> omega
    refine ⟨(List.range len).map fun i => (Sx i).data.toList, ?_⟩
    have el : ((List.range len).map fun i => (Sx i).data.toList).length = len := by simp
    have e2 : strs ((List.range len).map fun i => (Sx i).data.toList) = (List.range len).map fun i => AV.str (Sx i).data.toList := by
      have e1 : ∀ l : List Str, strs l = l.map AV.str := fun l => by
        simp only [strs, arr]
        induction l with
        | nil => rfl
        | cons y l ih => simp only [List.flatMap_cons, List.map_cons, ih]; rfl
      rw [e1, List.map_map]; rfl
    rw [el]
    refine .vs b off (fun i => .string (Sx i)) (fun _ => free_bare) hle (fun n hn => by cases hn) (fun i hi => ?_) (fun i x hx => ?_)
    · have hi' : i < len := by rw [e2] at hi; simpa using hi
      have := (hcell i (by omega)).1
      rw [add_plain] at this
      exact this
    · rw [e2, List.getElem?_map, Option.map_eq_some_iff] at hx
      obtain ⟨z, hz, rfl⟩ := hx
      rw [List.getElem?_range] at hz
      · cases hz
        exact V.str' _
      · exact (List.getElem?_eq_some_iff.1 hz).1 |> fun h => by simpa using h


theorem und24 : ∃ f0 f1, Tryz.prog.underlying 24 = some (.struct #[f0, f1]) ∧ f0.type = 3 ∧ f0.offset = 0 ∧ f1.type = 22 ∧ f1.offset = 1 :=
  ⟨{ name := "Rows", type := 3, offset := 0, embedded := false, tag := "", pkgPath := "", byteOffset := 0 }, { name := "Columns", type := 22, offset := 1, embedded := false, tag := "", pkgPath := "", byteOffset := 8 }, by kernel_rfl, rfl, rfl, rfl, rfl⟩
theorem und22 : Tryz.prog.underlying 22 = some (.slice 9) := by kernel_rfl
theorem und9' : Tryz.prog.underlying 9 = some .string := by kernel_rfl
theorem und3' : Tryz.prog.underlying 3 = some (.int .i64) := by kernel_rfl
theorem cellsI3 : Tryz.prog.cellsOf 3 = 1 := by kernel_rfl
theorem cellsI9 : Tryz.prog.cellsOf 9 = 1 := by kernel_rfl
theorem cellsI22 : Tryz.prog.cellsOf 22 = 1 := by kernel_rfl
theorem cellsI24 : Tryz.prog.cellsOf 24 = 2 := by kernel_rfl
theorem ctypes24 : Tryz.prog.cellTypes Tryz.prog.depth 24 = some [3, 22] := by kernel_rfl

set_option maxRecDepth 100000 in
theorem v_image {H : Type} {enc : TypeId × Value → H} {W : World} {base : Nat} {sp : Nat → Bool} {v : Value} {d : DataW H} {ps : List MemPlace} (hval : Value.okWide Tryz.prog W .any base 24 v) (h : DataW.Trod enc Tryz.prog W 0 sp true 24 v d ps) :
    ∃ (rows : Int) (l : List Str), V bare W (.agg [.int .i64 rows, .vs (strs l) l.length none]) v := by
  obtain ⟨f0, f1, hu, e0, o0, e1, o1⟩ := und24
  simp only [Value.okWide, hu] at hval
  obtain ⟨cs, rfl, hsz, ts, hts, _, hall⟩ := hval
  rw [ctypes24] at hts
  obtain rfl : ts = [3, 22] := (Option.some.inj hts).symm
  rw [cellsI24] at hsz
  obtain ⟨fuel, hf⟩ := h
  obtain ⟨l⟩ := cs
  match l, hsz with
  | [c0, c1], _ =>
    obtain ⟨y0, y1, n, hx, _, t0, t1⟩ := Go.ChangeShapes.trod_struct2 hu hf
    simp only [e0, o0, e1, o1, cellsI3, cellsI22, Value.cells, List.drop, List.take] at t0 t1
    obtain ⟨z, a0, _⟩ := DataW.trod_int und3' t0
    simp only [List.cons.injEq, and_true] at a0
    subst a0
    obtain ⟨u, hu1, hok⟩ := hall 1 c1 rfl
    obtain rfl : u = 22 := (Option.some.inj hu1).symm
    obtain ⟨l, hl⟩ := v_strs_cells und22 und9' cellsI9 hok t1
    exact ⟨z, l, .agg (m := [.int .i64 z, c1]) rfl fun i x y hx hy => by
      match i, hx, hy with
      | 0, hx, hy => cases hx; cases hy; exact .int _ _
      | 1, hx, hy => cases hx; cases hy; exact hl⟩
end Go.Ab.Ch5

