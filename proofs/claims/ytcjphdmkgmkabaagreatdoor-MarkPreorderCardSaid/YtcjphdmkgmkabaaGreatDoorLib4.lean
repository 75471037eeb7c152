/-
  Own work: slices.Clone and slices.BinarySearchFunc over marks.
-/
import Derived.Test.YtcjphdmkgmkabaaGreatDoorLib3
import Derived.Test.YtcjphdmkgmkabaaGreatDoorCh1Base
import Derived.Test.YtcjphdmkgmkabaaGreatDoorLib2
import Derived.Deep.Slices
import Derived.Deep.Strs
namespace Go.Ab.Ch1
variable {M : Mach} {b n : Nat} {cap : Option Nat} {g : AV} {c : Mk → Mk → Int}

/-- What a slice's cells say, as marks. -/
def decMks : List AV → Option (List Mk)
  | [] => some []
  | .str k :: .int .i64 v :: .str r :: l => (decMks l).map ((k, v, r) :: ·)
  | _ => none
theorem decMks_arr : ∀ l : List Mk, decMks (arr cm l) = some l
  | [] => rfl
  | (k, v, r) :: l => by
    have := decMks_arr l
    simp only [arr] at this
    simp only [arr, List.flatMap_cons, cm, List.cons_append, List.nil_append, decMks, this, Option.map_some]
theorem decMks_eq : ∀ {cs : List AV} {l : List Mk}, decMks cs = some l → cs = arr cm l
  | [], l, h => by simp only [decMks, Option.some.injEq] at h; subst h; rfl
  | x :: cs, l, h => by
    unfold decMks at h
    split at h
    · rename_i h2; cases h2
    · rename_i h2
      cases h2
      simp only [Option.map_eq_some_iff] at h
      obtain ⟨l', h1, rfl⟩ := h
      rw [decMks_eq h1]
      rfl
    · cases h

/-! Slices of marks as arguments. -/
def marksAt (h : Heap) (v : AV) : Option (List Mk) := match cellsAt h v with
  | some (c, n) => match decMks c with
    | some l => if l.length = n then some l else none
    | none => none
  | none => none
theorem marksAt_sl {h : Heap} {v : AV} {l : List Mk} (hi : marksAt h v = some l) : Sl cm h v l := by
  unfold marksAt at hi
  split at hi
  · rename_i c n hc
    split at hi
    · rename_i l' hl
      split at hi
      · rename_i hn
        cases hi
        refine sl_of_cells ?_
        rw [hc, decMks_eq hl, hn]
      · cases hi
    · cases hi
  · cases hi
theorem marksAt_vs {h : Heap} {l : List Mk} {cap : Option Nat} : marksAt h (.vs (arr cm l) l.length cap) = some l := by
  simp only [marksAt, cellsAt, sliceCells, decMks_arr, if_true]

theorem one_cm (l : List Mk) : (arr cm l).all oneA = true := one_arr (fun _ => rfl) l
theorem len_cm (l : List Mk) : (arr cm l).length = l.length * 3 := arr_length (f := cm) (esz := 3) (fun _ => rfl) l
theorem arr_ne {l : List Mk} (h : l ≠ []) : ∃ x r, arr cm l = x :: r := by
  cases l with
  | nil => exact absurd rfl h
  | cons m l => exact ⟨_, _, rfl⟩

/-- slices.Clone of some marks. -/
theorem w130 (hft : M.FT = FT) (l : List Mk) (cap : Option Nat) (hl : l ≠ []) (hn : l.length < 1000000) : Run M 130 [.vs (arr cm l) l.length cap] [] ⟨.sl 1 0 l.length 3 none, [some (.cells [] 49), some (.cells (arr cm l) 49)], []⟩ := by
  have hp : 0 < l.length := List.length_pos_iff.2 hl
  have hs : ∀ h, sliceCells h (.vs (arr cm l) l.length cap) = some (arr cm l, l.length) := fun _ => rfl
  obtain ⟨x, r, hx⟩ := arr_ne hl
  have he : eqRef .slice (.vs (arr cm l) l.length cap) .nilsl = some false := by rw [hx]; rfl
  have hroom : l.length * 40 ≤ roomLimit := by unfold roomLimit; omega
  refine run_of_W (by rw [hft]; exact ft130) (by simp) ?_
  unfold b130
  simp only [List.map_cons, List.map_nil, List.getElem?_cons_zero, List.getElem?_cons_succ, List.getElem?_nil, Option.getD_some, Option.getD_none]
  repeat' first | apply W.seq | apply SQn | apply W.region | apply WO.nil | apply W.block | apply W.ret | apply W.exit | apply W.skip | apply SQr | apply SQe | apply BQn | apply BQr | apply BQe | (apply BQo; exact rfl) | apply LQe | apply LQr | (apply W.condT; exact rfl) | (apply W.condF; exact rfl) | (apply W.cond; exact rfl; all_goals intro _) | (apply WO.eqs; exact rfl; exact rfl; exact he) | (apply WO.apc; exact rfl; exact rfl; exact rfl; exact hs _; exact ⟨len_cm l, by decide, one_cm l⟩; exact ⟨hp, hroom⟩) | (apply WO.hlv; exact rfl; exact rfl; exact rfl) | (apply WO.hpv; exact rfl; exact rfl; exact rfl) | (apply WO.hnv; exact rfl; exact rfl; exact rfl) | (apply WO.pl; exact rfl; exact rfl) | (apply WO.pp; exact rfl; exact rfl)
  exact ⟨.inr rfl, rfl, _, rfl, rfl, rfl⟩
theorem w130nil (hft : M.FT = FT) (h : Heap) : Run M 130 [.nilsl] h ⟨.nilsl, h, []⟩ := by
  refine run_drop (by rw [hft]; exact ft130) (by simp) rfl ?_
  unfold b130
  simp only [List.map_cons, List.map_nil, List.getElem?_cons_zero, List.getElem?_cons_succ, List.getElem?_nil, Option.getD_some, Option.getD_none]
  repeat' first | apply W.seq | apply SQn | apply W.region | apply WO.nil | apply W.block | apply W.ret | apply W.exit | apply W.skip | apply SQr | apply SQe | apply BQn | apply BQr | apply BQe | (apply BQo; exact rfl) | apply LQe | apply LQr | (apply W.condT; exact rfl) | (apply W.condF; exact rfl) | (apply W.cond; exact rfl; all_goals intro _) | (apply WO.hlv; exact rfl; exact rfl; exact rfl) | (apply WO.hpv; exact rfl; exact rfl; exact rfl) | (apply WO.hnv; exact rfl; exact rfl; exact rfl) | (apply WO.pl; exact rfl; exact rfl) | (apply WO.pp; exact rfl; exact rfl)
  exact ⟨.inr rfl, rfl, ⟨[], by simp⟩, fun x hx => (by cases hx), _, rfl, rfl⟩
theorem w130dead (hft : M.FT = FT) (h : Heap) (m : Nat) : Run M 130 [.sl h.length 0 0 3 (some m)] (h ++ [none]) ⟨.sl (h ++ [none]).length 0 0 3 (some 0), (h ++ [none]) ++ [some (.cells [] 49)], []⟩ := by
  have hs : sliceCells ((h ++ [none]) ++ [some (.cells [] 49)]) (.sl h.length 0 0 3 (some m)) = some ([], 0) := by
    simp [sliceCells, Heap.at]
  refine run_of_WH (by rw [hft]; exact ft130) (by simp) ?_
  unfold b130
  simp only [List.map_cons, List.map_nil, List.getElem?_cons_zero, List.getElem?_cons_succ, List.getElem?_nil, Option.getD_some, Option.getD_none]
  repeat' first | apply W.seq | apply SQn | apply W.region | apply WO.nil | apply W.block | apply W.ret | apply W.exit | apply W.skip | apply SQr | apply SQe | apply BQn | apply BQr | apply BQe | (apply BQo; exact rfl) | apply LQe | apply LQr | (apply W.condT; exact rfl) | (apply W.condF; exact rfl) | (apply W.cond; exact rfl; all_goals intro _) | (apply WO.eqs; exact rfl; exact rfl; exact rfl) | (apply WO.ap0; exact rfl; exact rfl; exact hs; decide) | (apply WO.hlv; exact rfl; exact rfl; exact rfl) | (apply WO.hpv; exact rfl; exact rfl; exact rfl) | (apply WO.hnv; exact rfl; exact rfl; exact rfl) | (apply WO.pl; exact rfl; exact rfl) | (apply WO.pp; exact rfl; exact rfl)
  refine ⟨.inr rfl, rfl, _, rfl, ?_⟩
  simp only [retA, tupA, AV.top]
  rw [if_neg (by simp; intro h; omega)]
  rfl

/-- slices.Clone as a contract. -/
def specClone : Spec := fun
  | [.vs cs k _], h => match decMks cs with
    | some [] => if k = 0 then some ⟨.vs [] 0 none, h, []⟩ else none
    | some l => if l.length = k ∧ k < 1000000 then some ⟨.sl h.length 0 k 3 none, h ++ [some (.cells (arr cm l) 49)], []⟩ else none
    | none => none
  | _, _ => none
theorem specClone_nil (cap : Option Nat) (h : Heap) : specClone [.vs (arr cm []) 0 cap] h = some ⟨.vs [] 0 none, h, []⟩ := rfl
theorem specClone_some {l : List Mk} (hl : l ≠ []) (hn : l.length < 1000000) (cap : Option Nat) (h : Heap) : specClone [.vs (arr cm l) l.length cap] h = some ⟨.sl h.length 0 l.length 3 none, h ++ [some (.cells (arr cm l) 49)], []⟩ := by
  simp only [specClone, decMks_arr]
  cases l with
  | nil => exact absurd rfl hl
  | cons m l => exact if_pos ⟨trivial, hn⟩

/-- slices.BinarySearchFunc over marks in their block. -/
theorem loop132 (hc : CmpM M g c) (l : List Mk) (t : Mk) (hn : l.length < 2305843009213693952) (hp : Heap) (hat : hp.at b = some (.cells (arr cm l) 49)) (bx : Nat) (hbx : hp.at bx = some (.cells (cm t) 49)) (p1 p4 p5 p6 : AV) (wr : List Nat)
    (hm : ∀ k k', k < k' → k' < l.length → c l[k']! t < 0 → c l[k]! t < 0) {Q : Ex → StW → Prop} : ∀ (r i j : Nat) (a9 : AV) (lo : List (Nat × AV)), j - i ≤ r → i ≤ j → j ≤ l.length → (∀ k, k < i → c l[k]! t < 0) → (∀ k, j ≤ k → k < l.length → ¬ c l[k]! t < 0) →
    (∀ (i : Nat) a9 lo, i ≤ l.length → (∀ k, k < i → c l[k]! t < 0) → (∀ k, i ≤ k → k < l.length → ¬ c l[k]! t < 0) → Q (.exit 0) ⟨⟨[.sl b 0 l.length 3 cap, p1, g, .ptr bx 0, p4, p5, p6, .int .i64 i, .int .i64 i, a9], lo, hp, []⟩, wr⟩) →
    W M (.loop b132_0) ⟨⟨[.sl b 0 l.length 3 cap, p1, g, .ptr bx 0, p4, p5, p6, .int .i64 i, .int .i64 j, a9], lo, hp, []⟩, wr⟩ Q := by
  intro r
  induction r with
  | zero =>
    intro i j a9 lo hr h2 h3 h4 h5 hQ
    obtain rfl : i = j := by omega
    refine W.loop ?_
    unfold b132_0
    repeat' first | apply W.seq | apply SQn | apply W.region | apply WO.nil | apply W.block | apply W.ret | apply W.exit | apply W.skip | apply SQr | apply SQe | apply BQn | apply BQr | apply BQe | (apply BQo; exact rfl) | apply LQe | apply LQr | (apply W.drawro; exact rfl) | apply W.draw | apply WD.nil | (apply WD.gT; exact rfl) | (apply WD.gF; exact rfl) | (apply WD.sT; exact rfl) | (apply WD.sF; exact rfl) | (apply WD.sU; exact rfl) | (apply WD.pure1; exact rfl) | (apply WD.load1; exact rfl; exact rfl; exact rfl) | (apply WD.clb; exact rfl; exact rfl; exact rfl; exact rfl; all_goals first | (intro h; exact absurd h (by decide)) | intro _) | (apply WD.cl0; exact rfl; exact rfl; exact rfl; exact rfl) | (apply WD.cl1; exact rfl; exact rfl; exact rfl; exact rfl) | (apply W.condT; exact rfl) | (apply W.condF; exact rfl) | (apply W.cond; exact rfl; all_goals intro _) | (apply WO.lss; exact rfl; exact rfl; all_goals first | (intro _; exfalso; omega) | intro _) | (apply WO.cvu; exact rfl; omega) | (apply WO.cvi; exact rfl; omega) | (apply WO.shr1; exact rfl) | (apply WO.add; exact rfl; exact rfl; omega) | (apply WO.iav; exact rfl; exact rfl; omega) | (apply WO.ias; exact rfl; exact rfl; omega) | (apply WO.lda; exact rfl; exact fun _ => rfl; (first | omega | (simp only [List.length_set]; omega) | (simp; omega)); decide; exact rfl; case ia => infer_instance) | (apply WO.lsa; exact rfl; (first | exact rfl | assumption | exact at_new | (apply at_old; assumption) | (apply at_put; first | assumption | (simp only [put_length]; assumption))); exact fun _ => rfl; (first | omega | (simp only [List.length_set]; omega) | (simp; omega)); decide; exact rfl; case ia => infer_instance) | (apply WO.clb; exact rfl; exact rfl; exact rfl; all_goals first | (intro h; exact absurd h (by decide)) | intro _) | (apply WO.cll; exact rfl; exact rfl; exact rfl) | (apply WO.hlv; exact rfl; exact rfl; exact rfl) | (apply WO.hpv; exact rfl; exact rfl; exact rfl) | (apply WO.hnv; exact rfl; exact rfl; exact rfl) | (apply WO.pl; exact rfl; exact rfl) | (apply WO.pp; exact rfl; exact rfl)
    · exact hQ i _ _ h3 h4 h5
  | succ r ih =>
    intro i j a9 lo hr h2 h3 h4 h5 hQ
    refine W.loop ?_
    rcases Nat.eq_or_lt_of_le h2 with rfl | hlt
    · unfold b132_0
      repeat' first | apply W.seq | apply SQn | apply W.region | apply WO.nil | apply W.block | apply W.ret | apply W.exit | apply W.skip | apply SQr | apply SQe | apply BQn | apply BQr | apply BQe | (apply BQo; exact rfl) | apply LQe | apply LQr | (apply W.drawro; exact rfl) | apply W.draw | apply WD.nil | (apply WD.gT; exact rfl) | (apply WD.gF; exact rfl) | (apply WD.sT; exact rfl) | (apply WD.sF; exact rfl) | (apply WD.sU; exact rfl) | (apply WD.pure1; exact rfl) | (apply WD.load1; exact rfl; exact rfl; exact rfl) | (apply WD.clb; exact rfl; exact rfl; exact rfl; exact rfl; all_goals first | (intro h; exact absurd h (by decide)) | intro _) | (apply WD.cl0; exact rfl; exact rfl; exact rfl; exact rfl) | (apply WD.cl1; exact rfl; exact rfl; exact rfl; exact rfl) | (apply W.condT; exact rfl) | (apply W.condF; exact rfl) | (apply W.cond; exact rfl; all_goals intro _) | (apply WO.lss; exact rfl; exact rfl; all_goals first | (intro _; exfalso; omega) | intro _) | (apply WO.cvu; exact rfl; omega) | (apply WO.cvi; exact rfl; omega) | (apply WO.shr1; exact rfl) | (apply WO.add; exact rfl; exact rfl; omega) | (apply WO.iav; exact rfl; exact rfl; omega) | (apply WO.ias; exact rfl; exact rfl; omega) | (apply WO.lda; exact rfl; exact fun _ => rfl; (first | omega | (simp only [List.length_set]; omega) | (simp; omega)); decide; exact rfl; case ia => infer_instance) | (apply WO.lsa; exact rfl; (first | exact rfl | assumption | exact at_new | (apply at_old; assumption) | (apply at_put; first | assumption | (simp only [put_length]; assumption))); exact fun _ => rfl; (first | omega | (simp only [List.length_set]; omega) | (simp; omega)); decide; exact rfl; case ia => infer_instance) | (apply WO.clb; exact rfl; exact rfl; exact rfl; all_goals first | (intro h; exact absurd h (by decide)) | intro _) | (apply WO.cll; exact rfl; exact rfl; exact rfl) | (apply WO.hlv; exact rfl; exact rfl; exact rfl) | (apply WO.hpv; exact rfl; exact rfl; exact rfl) | (apply WO.hnv; exact rfl; exact rfl; exact rfl) | (apply WO.pl; exact rfl; exact rfl) | (apply WO.pp; exact rfl; exact rfl)
      · exact hQ i _ _ h3 h4 h5
    · obtain ⟨H, hH⟩ : ∃ H, H = (i + j) / 2 := ⟨_, rfl⟩
      have eH : ((i : Int) + (j : Int)) / 2 = (H : Int) := by omega
      have eH' : (((i : Int) + (j : Int)) / 2).toNat = H := by omega
      have hHl : (((i : Int) + (j : Int)) / 2).toNat < l.length := by omega
      have hcc : CT M g [am l[(((i : Int) + (j : Int)) / 2).toNat]!, am t] hp ⟨.int .i64 (c l[H]! t), hp, []⟩ := by rw [eH']; exact hc _ _ _
      by_cases hd : c l[H]! t < 0
      · unfold b132_0
        repeat' first | (apply WO.ldb; exact rfl; exact hbx; exact rfl) | apply W.seq | apply SQn | apply W.region | apply WO.nil | apply W.block | apply W.ret | apply W.exit | apply W.skip | apply SQr | apply SQe | apply BQn | apply BQr | apply BQe | (apply BQo; exact rfl) | apply LQe | apply LQr | (apply W.drawro; exact rfl) | apply W.draw | apply WD.nil | (apply WD.gT; exact rfl) | (apply WD.gF; exact rfl) | (apply WD.sT; exact rfl) | (apply WD.sF; exact rfl) | (apply WD.sU; exact rfl) | (apply WD.pure1; exact rfl) | (apply WD.load1; exact rfl; exact rfl; exact rfl) | (apply WD.clb; exact rfl; exact rfl; exact rfl; exact rfl; all_goals first | (intro h; exact absurd h (by decide)) | intro _) | (apply WD.cl0; exact rfl; exact rfl; exact rfl; exact rfl) | (apply WD.cl1; exact rfl; exact rfl; exact rfl; exact rfl) | (apply W.condT; exact rfl) | (apply W.condF; exact rfl) | (apply W.cond; exact rfl; all_goals intro _) | (apply WO.lss; exact rfl; exact rfl; all_goals first | (intro _; exfalso; omega) | intro _) | (apply WO.cvu; exact rfl; omega) | (apply WO.cvi; exact rfl; omega) | (apply WO.shr1; exact rfl) | (apply WO.add; exact rfl; exact rfl; omega) | (apply WO.ct; exact rfl; exact rfl; first | exact hcc) | (apply WO.ctn; exact rfl; exact rfl; first | exact hcc) | (apply WD.ct; exact rfl; exact rfl; exact rfl; first | exact hcc) | (apply WO.iav; exact rfl; exact rfl; omega) | (apply WO.ias; exact rfl; exact rfl; omega) | (apply WO.lda; exact rfl; exact fun _ => rfl; (first | omega | (simp only [List.length_set]; omega) | (simp; omega)); decide; exact rfl; case ia => infer_instance) | (apply WO.lsa; exact rfl; (first | exact rfl | assumption | exact at_new | (apply at_old; assumption) | (apply at_put; first | assumption | (simp only [put_length]; assumption))); exact fun _ => rfl; (first | omega | (simp only [List.length_set]; omega) | (simp; omega)); decide; exact rfl; case ia => infer_instance) | (apply WO.clb; exact rfl; exact rfl; exact rfl; all_goals first | (intro h; exact absurd h (by decide)) | intro _) | (apply WO.cll; exact rfl; exact rfl; exact rfl) | (apply WO.hlv; exact rfl; exact rfl; exact rfl) | (apply WO.hpv; exact rfl; exact rfl; exact rfl) | (apply WO.hnv; exact rfl; exact rfl; exact rfl) | (apply WO.pl; exact rfl; exact rfl) | (apply WO.pp; exact rfl; exact rfl)
        refine LQn ?_
        rw [eH]
        exact ih (H + 1) j _ _ (by omega) (by omega) h3 (fun k hk => by
          rcases Nat.lt_or_eq_of_le (Nat.le_of_lt_succ hk) with hk | rfl
          · exact hm k H hk (by omega) hd
          · exact hd) h5 hQ
      · unfold b132_0
        repeat' first | (apply WO.ldb; exact rfl; exact hbx; exact rfl) | apply W.seq | apply SQn | apply W.region | apply WO.nil | apply W.block | apply W.ret | apply W.exit | apply W.skip | apply SQr | apply SQe | apply BQn | apply BQr | apply BQe | (apply BQo; exact rfl) | apply LQe | apply LQr | (apply W.drawro; exact rfl) | apply W.draw | apply WD.nil | (apply WD.gT; exact rfl) | (apply WD.gF; exact rfl) | (apply WD.sT; exact rfl) | (apply WD.sF; exact rfl) | (apply WD.sU; exact rfl) | (apply WD.pure1; exact rfl) | (apply WD.load1; exact rfl; exact rfl; exact rfl) | (apply WD.clb; exact rfl; exact rfl; exact rfl; exact rfl; all_goals first | (intro h; exact absurd h (by decide)) | intro _) | (apply WD.cl0; exact rfl; exact rfl; exact rfl; exact rfl) | (apply WD.cl1; exact rfl; exact rfl; exact rfl; exact rfl) | (apply W.condT; exact rfl) | (apply W.condF; exact rfl) | (apply W.cond; exact rfl; all_goals intro _) | (apply WO.lss; exact rfl; exact rfl; all_goals first | (intro _; exfalso; omega) | intro _) | (apply WO.cvu; exact rfl; omega) | (apply WO.cvi; exact rfl; omega) | (apply WO.shr1; exact rfl) | (apply WO.add; exact rfl; exact rfl; omega) | (apply WO.ct; exact rfl; exact rfl; first | exact hcc) | (apply WO.ctn; exact rfl; exact rfl; first | exact hcc) | (apply WD.ct; exact rfl; exact rfl; exact rfl; first | exact hcc) | (apply WO.iav; exact rfl; exact rfl; omega) | (apply WO.ias; exact rfl; exact rfl; omega) | (apply WO.lda; exact rfl; exact fun _ => rfl; (first | omega | (simp only [List.length_set]; omega) | (simp; omega)); decide; exact rfl; case ia => infer_instance) | (apply WO.lsa; exact rfl; (first | exact rfl | assumption | exact at_new | (apply at_old; assumption) | (apply at_put; first | assumption | (simp only [put_length]; assumption))); exact fun _ => rfl; (first | omega | (simp only [List.length_set]; omega) | (simp; omega)); decide; exact rfl; case ia => infer_instance) | (apply WO.clb; exact rfl; exact rfl; exact rfl; all_goals first | (intro h; exact absurd h (by decide)) | intro _) | (apply WO.cll; exact rfl; exact rfl; exact rfl) | (apply WO.hlv; exact rfl; exact rfl; exact rfl) | (apply WO.hpv; exact rfl; exact rfl; exact rfl) | (apply WO.hnv; exact rfl; exact rfl; exact rfl) | (apply WO.pl; exact rfl; exact rfl) | (apply WO.pp; exact rfl; exact rfl)
        refine LQn ?_
        rw [eH]
        exact ih i H _ _ (by omega) (by omega) (by omega) h4 (fun k hk1 hk2 => by
          rcases Nat.lt_or_eq_of_le hk1 with hk | rfl
          · exact fun hd' => hd (hm H k hk hk2 hd')
          · exact hd) hQ
set_option maxHeartbeats 1000000 in
theorem r132 (hft : M.FT = FT) (hx : ∀ ars h, M.ext 132 ars h = none) (hc : CmpM M g c) (l : List Mk) (t : Mk) (hn : l.length < 1000000) (hp : Heap) (hat : hp.at b = some (.cells (arr cm l) 49))
    (hm : ∀ k k', k < k' → k' < l.length → c l[k']! t < 0 → c l[k]! t < 0) :
    ∃ (p : Nat) (f : Bool), (∀ k, k < p → c l[k]! t < 0) ∧ (∀ k, p ≤ k → k < l.length → ¬ c l[k]! t < 0) ∧ p ≤ l.length ∧ CT M (fnM 132) [.sl b 0 l.length 3 cap, am t, g] hp ⟨.tup [.int .i64 p, .bool f], hp, []⟩ := by
  obtain ⟨v, ⟨p, f, rfl, h1, h2, h3⟩, hr⟩ := run_dropE (M := M) (h := hp) (ars := [.sl b 0 l.length 3 cap, am t, g]) (P := fun v => ∃ (p : Nat) (f : Bool), v = .tup [.int .i64 p, .bool f] ∧ (∀ k, k < p → c l[k]! t < 0) ∧ (∀ k, p ≤ k → k < l.length → ¬ c l[k]! t < 0) ∧ p ≤ l.length) (by rw [hft]; exact ft132) (by simp) (by rintro v ⟨p, f, rfl, _⟩; rfl) (by
    have hat' : Heap.at (hp ++ [some (.cells (cm t) 49)]) b = some (.cells (arr cm l) 49) := at_old hat
    unfold b132
    simp only [List.map_cons, List.map_nil, List.getElem?_cons_zero, List.getElem?_cons_succ, List.getElem?_nil, Option.getD_some, Option.getD_none]
    repeat' first | apply W.seq | apply SQn | apply W.region | apply WO.nil | apply W.block | apply W.ret | apply W.exit | apply W.skip | apply SQr | apply SQe | apply BQn | apply BQr | apply BQe | (apply BQo; exact rfl) | apply LQe | apply LQr | (apply W.drawro; exact rfl) | apply W.draw | apply WD.nil | (apply WD.gT; exact rfl) | (apply WD.gF; exact rfl) | (apply WD.sT; exact rfl) | (apply WD.sF; exact rfl) | (apply WD.sU; exact rfl) | (apply WD.pure1; exact rfl) | (apply WD.load1; exact rfl; exact rfl; exact rfl) | (apply WD.new1; exact rfl) | (apply WD.clb; exact rfl; exact rfl; exact rfl; exact rfl; all_goals first | (intro h; exact absurd h (by decide)) | intro _) | (apply WD.cl0; exact rfl; exact rfl; exact rfl; exact rfl) | (apply WD.cl1; exact rfl; exact rfl; exact rfl; exact rfl) | (apply W.condT; exact rfl) | (apply W.condF; exact rfl) | (apply W.cond; exact rfl; all_goals intro _) | (apply WO.gT; exact rfl) | (apply WO.gF; exact rfl) | (apply WO.sT; exact rfl) | (apply WO.sF; exact rfl) | (apply WO.sU; exact rfl) | (apply WO.lss; exact rfl; exact rfl; all_goals first | (intro _; exfalso; omega) | intro _) | (apply WO.eql; exact rfl; exact rfl; all_goals first | (intro _; exfalso; omega) | intro _) | (apply WO.pkT; exact rfl; exact rfl) | (apply WO.pkF; exact rfl; exact rfl) | (apply WO.iav; exact rfl; exact rfl; omega) | (apply WO.ias; exact rfl; exact rfl; omega) | (apply WO.lda; exact rfl; exact fun _ => rfl; (first | omega | (simp only [List.length_set]; omega) | (simp; omega)); decide; exact rfl; case ia => infer_instance) | (apply WO.lsa; exact rfl; (first | exact rfl | assumption | exact at_new | (apply at_old; assumption) | (apply at_put; first | assumption | (simp only [put_length]; assumption))); exact fun _ => rfl; (first | omega | (simp only [List.length_set]; omega) | (simp; omega)); decide; exact rfl; case ia => infer_instance) | (apply WO.seql; exact rfl; exact rfl; all_goals first | (intro h; exact absurd h (by decide)) | (intro h; exact absurd rfl h) | (intro h; contradiction) | intro _) | (apply WO.clb; exact rfl; exact rfl; exact rfl; all_goals first | (intro h; exact absurd h (by decide)) | intro _) | (apply WO.cll; exact rfl; exact rfl; exact rfl) | (apply WO.hlv; exact rfl; exact rfl; exact rfl) | (apply WO.hpv; exact rfl; exact rfl; exact rfl) | (apply WO.hnv; exact rfl; exact rfl; exact rfl) | (apply WO.pl; exact rfl; exact rfl) | (apply WO.pp; exact rfl; exact rfl)
    refine loop132 (b := b) (cap := cap) hc l t (by omega) _ hat' hp.length at_new _ _ _ _ _ hm _ 0 l.length _ _ (Nat.le_refl _) (Nat.zero_le _) (Nat.le_refl _) (fun k hk => absurd hk (Nat.not_lt_zero _)) (fun k h1 h2 => by omega) (fun i a9 lo hi h1 h2 => ?_)
    have f1 : ((i : Int)).toNat = i := by omega
    have hcc : CT M g [am l[((i : Int)).toNat]!, am t] (hp ++ [some (.cells (cm t) 49)]) ⟨.int .i64 (c l[i]! t), hp ++ [some (.cells (cm t) 49)], []⟩ := by rw [f1]; exact hc _ _ _
    repeat' first | (apply WO.ldb; exact rfl; exact at_new; exact rfl) | apply W.seq | apply SQn | apply W.region | apply WO.nil | apply W.block | apply W.ret | apply W.exit | apply W.skip | apply SQr | apply SQe | apply BQn | apply BQr | apply BQe | (apply BQo; exact rfl) | apply LQe | apply LQr | (apply W.drawro; exact rfl) | apply W.draw | apply WD.nil | (apply WD.gT; exact rfl) | (apply WD.gF; exact rfl) | (apply WD.sT; exact rfl) | (apply WD.sF; exact rfl) | (apply WD.sU; exact rfl) | (apply WD.pure1; exact rfl) | (apply WD.load1; exact rfl; exact rfl; exact rfl) | (apply WD.new1; exact rfl) | (apply WD.clb; exact rfl; exact rfl; exact rfl; exact rfl; all_goals first | (intro h; exact absurd h (by decide)) | intro _) | (apply WD.cl0; exact rfl; exact rfl; exact rfl; exact rfl) | (apply WD.cl1; exact rfl; exact rfl; exact rfl; exact rfl) | (apply W.condT; exact rfl) | (apply W.condF; exact rfl) | (apply W.cond; exact rfl; all_goals intro _) | (apply WO.gT; exact rfl) | (apply WO.gF; exact rfl) | (apply WO.sT; exact rfl) | (apply WO.sF; exact rfl) | (apply WO.sU; exact rfl) | (apply WO.lss; exact rfl; exact rfl; all_goals first | (intro _; exfalso; omega) | intro _) | (apply WO.eql; exact rfl; exact rfl; all_goals first | (intro _; exfalso; omega) | intro _) | (apply WO.pkT; exact rfl; exact rfl) | (apply WO.pkF; exact rfl; exact rfl) | (apply WO.ct; exact rfl; exact rfl; first | exact hcc) | (apply WO.ctn; exact rfl; exact rfl; first | exact hcc) | (apply WD.ct; exact rfl; exact rfl; exact rfl; first | exact hcc) | (apply WO.iav; exact rfl; exact rfl; omega) | (apply WO.ias; exact rfl; exact rfl; omega) | (apply WO.lda; exact rfl; exact fun _ => rfl; (first | omega | (simp only [List.length_set]; omega) | (simp; omega)); decide; exact rfl; case ia => infer_instance) | (apply WO.lsa; exact rfl; (first | exact rfl | assumption | exact at_new | (apply at_old; assumption) | (apply at_put; first | assumption | (simp only [put_length]; assumption))); exact fun _ => rfl; (first | omega | (simp only [List.length_set]; omega) | (simp; omega)); decide; exact rfl; case ia => infer_instance) | (apply WO.seql; exact rfl; exact rfl; all_goals first | (intro h; exact absurd h (by decide)) | (intro h; exact absurd rfl h) | (intro h; contradiction) | intro _) | (apply WO.clb; exact rfl; exact rfl; exact rfl; all_goals first | (intro h; exact absurd h (by decide)) | intro _) | (apply WO.cll; exact rfl; exact rfl; exact rfl) | (apply WO.hlv; exact rfl; exact rfl; exact rfl) | (apply WO.hpv; exact rfl; exact rfl; exact rfl) | (apply WO.hnv; exact rfl; exact rfl; exact rfl) | (apply WO.pl; exact rfl; exact rfl) | (apply WO.pp; exact rfl; exact rfl)
    all_goals exact ⟨.inr rfl, rfl, ⟨_, rfl⟩, fun x hx => (by cases hx), _, rfl, i, _, rfl, h1, h2, hi⟩)
  exact ⟨p, f, h1, h2, h3, CT.run (hx _ _) (by simpa using hr)⟩
end Go.Ab.Ch1


/-
  Own work: mark.Ranks: the check of the marks, one behind another.
-/
namespace Go.Ab.Ch1
variable {M : Mach} {cap : Option Nat}

def chkM (m : Mk) : Int := chk m.1 m.2.1 m.2.2
def worthM (m : Mk) : Int := worth m.1 m.2.1
def cmpM (a b : Mk) : Int := cmpW (worthM a) (worthM b)
theorem cmpM_lt (a b : Mk) : cmpM a b < 0 ↔ worthM b < worthM a := by
  unfold cmpM cmpW
  split
  · simp_all
  · split
    · constructor
      · intro h; omega
      · intro h; omega
    · constructor
      · intro h; omega
      · intro h; omega
/-- The error of a mark behind those before it. -/
def stepE (v m : Mk) : Int := firstNZ [chkM m, if differ v.1 m.1 then 13 else 0]
/-- The first error of the marks: v is the last one before them that is one. -/
def scan (v : Mk) : List Mk → Int
  | [] => 0
  | m :: r => if stepE v m ≠ 0 then stepE v m else scan (if m.1 = sNone then v else m) r
theorem scan_drop {v : Mk} {l : List Mk} {i : Nat} (h : i < l.length) : scan v (l.drop i) = if stepE v l[i]! ≠ 0 then stepE v l[i]! else scan (if l[i]!.1 = sNone then v else l[i]!) (l.drop (i + 1)) := by
  rw [List.drop_eq_getElem_cons h, getElem!_pos l i h, scan]

structure CRk (M : Mach) : Prop where
  pq : CPq M
  n132 : ∀ ars h, M.ext 132 ars h = none
  c36 : ∀ m h, M.ext 36 [am m] h = some ⟨.int .i64 (chkM m), h, []⟩
  c114 : ∀ a b h, M.ext 114 [am a, am b] h = some ⟨.bool (differ a.1 b.1), h, []⟩
  c97 : ∀ t e h, M.ext 97 [.bool t, .int .i64 e] h = some ⟨.int .i64 (if t then e else 0), h, []⟩
  c96 : ∀ a b (h : Heap), M.ext 96 [.sl h.length 0 2 1 (some 2)] (h ++ [some (.cells [.int .i64 a, .int .i64 b] 25)]) = some ⟨.int .i64 (firstNZ [a, b]), h ++ [some (.cells [.int .i64 a, .int .i64 b] 25)], []⟩
  c115 : CmpM M (fnM 115) cmpM
  c130 : ∀ ars h, M.ext 130 ars h = specClone ars h

set_option maxHeartbeats 2000000 in
theorem loop49_0 (C : CRk M) (l : List Mk) (hn : l.length < 1000000) (a6 a7 a8 a9 a10 a14 a15 a16 : AV) {Q : Ex → StW → Prop} : ∀ (r i : Nat) (v : Mk) (hp : Heap) (a4 a5 : AV) (lo : List (Nat × AV)) (wr : List Nat), i + r = l.length → hp.at 0 = some (.cells (cm v) 49) →
    (scan v (l.drop i) = 0 → ∀ a4 a5 hp lo wr, 0 < hp.length → Q (.exit 0) ⟨⟨[.vs (arr cm l) l.length cap, .nilsl, .int .i64 0, .ptr 0 0, a4, a5, a6, a7, a8, a9, a10, .vs (arr cm l) l.length cap, .int .i64 l.length, .int .i64 l.length, a14, a15, a16], lo, hp, []⟩, wr⟩) →
    (scan v (l.drop i) ≠ 0 → ∀ a4 a5 a13 hp lo wr, Q .ret ⟨⟨[.vs (arr cm l) l.length cap, .nilsl, .int .i64 (scan v (l.drop i)), .ptr 0 0, a4, a5, a6, a7, a8, a9, a10, .vs (arr cm l) l.length cap, .int .i64 l.length, a13, a14, a15, a16], lo, hp, []⟩, wr⟩) →
    W M (.loop b49_0) ⟨⟨[.vs (arr cm l) l.length cap, .nilsl, .int .i64 0, .ptr 0 0, a4, a5, a6, a7, a8, a9, a10, .vs (arr cm l) l.length cap, .int .i64 l.length, .int .i64 i, a14, a15, a16], lo, hp, []⟩, wr⟩ Q := by
  intro r
  induction r with
  | zero =>
    intro i v hp a4 a5 lo wr hi hv h1 h2
    obtain rfl : i = l.length := by omega
    refine W.loop ?_
    unfold b49_0
    repeat' first | apply W.seq | apply SQn | apply W.region | apply WO.nil | apply W.block | apply W.ret | apply W.exit | apply W.skip | apply SQr | apply SQe | apply BQn | apply BQr | apply BQe | (apply BQo; exact rfl) | apply LQe | apply LQr | (apply W.drawro; exact rfl) | apply W.draw | apply WD.nil | (apply WD.gT; exact rfl) | (apply WD.gF; exact rfl) | (apply WD.sT; exact rfl) | (apply WD.sF; exact rfl) | (apply WD.sU; exact rfl) | (apply WD.pure1; exact rfl) | (apply WD.load1; exact rfl; exact rfl; exact rfl) | (apply WD.store1; exact rfl; exact rfl; exact rfl) | (apply WD.new1; exact rfl) | (apply WD.clb; exact rfl; exact rfl; exact rfl; exact rfl; all_goals first | (intro h; exact absurd h (by decide)) | intro _) | (apply WD.cl0; exact rfl; exact rfl; exact rfl; exact rfl) | (apply WD.cl1; exact rfl; exact rfl; exact rfl; exact rfl) | (apply W.condT; exact rfl) | (apply W.condF; exact rfl) | (apply W.cond; exact rfl; all_goals intro _) | (apply WO.lss; exact rfl; exact rfl; all_goals first | (intro _; exfalso; omega) | intro _) | (apply WO.neq; exact rfl; exact rfl; all_goals first | (intro _; exfalso; omega) | intro _) | (apply WO.add; exact rfl; exact rfl; omega) | (apply WO.iav; exact rfl; exact rfl; omega) | (apply WO.ias; exact rfl; exact rfl; omega) | (apply WO.lda; exact rfl; exact fun _ => rfl; (first | omega | (simp only [List.length_set]; omega) | (simp; omega)); decide; exact rfl; case ia => infer_instance) | (apply WO.lsa; exact rfl; (first | exact rfl | assumption | exact at_new | (apply at_old; assumption) | (apply at_put; first | assumption | (simp only [put_length]; assumption))); exact fun _ => rfl; (first | omega | (simp only [List.length_set]; omega) | (simp; omega)); decide; exact rfl; case ia => infer_instance) | (apply WO.sta; exact rfl; exact rfl; (first | exact rfl | assumption | exact at_new | (apply at_old; assumption) | (apply at_put; first | assumption | (simp only [put_length]; assumption))); exact fun _ => rfl; (first | omega | (simp only [List.length_set]; omega) | (simp; omega)); exact ⟨rfl, by decide, rfl⟩; exact rfl; case ia => infer_instance) | (apply WO.ldf; exact rfl; exact fun _ => rfl; (first | omega | (simp only [List.length_set]; omega) | (simp; omega)); decide; exact rfl; case ia => infer_instance) | (apply WO.lsf; exact rfl; (first | exact rfl | assumption | exact at_new | (apply at_old; assumption) | (apply at_put; first | assumption | (simp only [put_length]; assumption))); exact fun _ => rfl; (first | omega | (simp only [List.length_set]; omega) | (simp; omega)); decide; exact rfl; case ia => infer_instance) | (apply WO.stf; exact rfl; exact rfl; (first | exact rfl | assumption | exact at_new | (apply at_old; assumption) | (apply at_put; first | assumption | (simp only [put_length]; assumption))); exact fun _ => rfl; (first | omega | (simp only [List.length_set]; omega) | (simp; omega)); exact ⟨rfl, by decide, rfl⟩; exact rfl; case ia => infer_instance) | (apply WO.sneq; exact rfl; exact rfl; all_goals first | (intro h; exact absurd h (by decide)) | (intro h; exact absurd rfl h) | (intro h; contradiction) | intro _) | (apply WO.clb; exact rfl; exact rfl; exact rfl; all_goals first | (intro h; exact absurd h (by decide)) | intro _) | (apply WO.cll; exact rfl; exact rfl; exact rfl) | (apply WO.hlv; exact rfl; exact rfl; exact rfl) | (apply WO.hpv; exact rfl; exact rfl; exact rfl) | (apply WO.hnv; exact rfl; exact rfl; exact rfl) | (apply WO.pl; exact rfl; exact rfl) | (apply WO.pp; exact rfl; exact rfl)
    exact h1 (by simp [scan]) _ _ _ _ _ (at_lt hv)
  | succ r ih =>
    intro i v hp a4 a5 lo wr hi hv h1 h2
    have hlt := at_lt hv
    have hd := scan_drop (v := v) (l := l) (i := i) (by omega)
    have f1 : ((i : Int)).toNat = i := by omega
    have h0 : (0 : Nat) ≠ hp.length := by omega
    have hm1 : hp.length < (hp ++ [some (Blk.cells [.str [], .int .i64 (0), .str []] 49)]).length := by simp
    have A1 : Heap.at ((hp ++ [some (Blk.cells [.str [], .int .i64 (0), .str []] 49)]).put hp.length (some (Blk.cells (cm l[((i : Int)).toNat]!) 49))) hp.length = some (.cells (cm l[((i : Int)).toNat]!) 49) := at_put hm1
    have A2 : Heap.at ((hp ++ [some (Blk.cells [.str [], .int .i64 (0), .str []] 49)]).put hp.length (some (Blk.cells (cm l[((i : Int)).toNat]!) 49))) 0 = some (.cells (cm v) 49) := at_else h0 (at_old hv)
    have hst : stepE v l[i]! = firstNZ [chkM l[((i : Int)).toNat]!, if differ v.1 l[((i : Int)).toNat]!.1 then 13 else 0] := by rw [f1]; rfl
    rw [hst] at hd
    refine W.loop ?_
    unfold b49_0
    repeat' first | (apply WO.ldb; exact rfl; (first | exact A1 | exact A2 | exact at_old A1); exact rfl) | (apply WO.stw; exact rfl; exact rfl; (first | exact at_new | exact at_old A2); exact ⟨rfl, rfl, rfl⟩) | apply W.seq | apply SQn | apply W.region | apply WO.nil | apply W.block | apply W.ret | apply W.exit | apply W.skip | apply SQr | apply SQe | apply BQn | apply BQr | apply BQe | (apply BQo; exact rfl) | apply LQe | apply LQr | (apply W.drawro; exact rfl) | apply W.draw | apply WD.nil | (apply WD.gT; exact rfl) | (apply WD.gF; exact rfl) | (apply WD.sT; exact rfl) | (apply WD.sF; exact rfl) | (apply WD.sU; exact rfl) | (apply WD.pure1; exact rfl) | (apply WD.load1; exact rfl; exact rfl; exact rfl) | (apply WD.store1; exact rfl; exact rfl; exact rfl) | (apply WD.new1; exact rfl) | (apply WD.clb; exact rfl; exact rfl; exact rfl; exact rfl; all_goals first | (intro h; exact absurd h (by decide)) | intro _) | (apply WD.cl0; exact rfl; exact rfl; exact rfl; exact rfl) | (apply WD.cl1; exact rfl; exact rfl; exact rfl; exact rfl) | (apply W.condT; exact rfl) | (apply W.condF; exact rfl) | (apply W.cond; exact rfl; all_goals intro _) | (apply WO.lss; exact rfl; exact rfl; all_goals first | (intro _; exfalso; omega) | intro _) | (apply WO.neq; exact rfl; exact rfl; all_goals first | (intro _; exfalso; omega) | intro _) | (apply WO.add; exact rfl; exact rfl; omega) | (apply WO.cll; exact rfl; exact rfl; first | exact C.c36 _ _ | exact C.c114 _ _ _ | exact C.c97 _ _ _ | exact C.c96 _ _ _) | (apply WD.cl0; exact rfl; exact rfl; exact rfl; first | exact C.c36 _ _ | exact C.c114 _ _ _ | exact C.c97 _ _ _ | exact C.c96 _ _ _) | (apply WO.iav; exact rfl; exact rfl; omega) | (apply WO.ias; exact rfl; exact rfl; omega) | (apply WO.lda; exact rfl; exact fun _ => rfl; (first | omega | (simp only [List.length_set]; omega) | (simp; omega)); decide; exact rfl; case ia => infer_instance) | (apply WO.lsa; exact rfl; (first | exact rfl | assumption | exact at_new | (apply at_old; assumption) | (apply at_put; first | assumption | (simp only [put_length]; assumption))); exact fun _ => rfl; (first | omega | (simp only [List.length_set]; omega) | (simp; omega)); decide; exact rfl; case ia => infer_instance) | (apply WO.sta; exact rfl; exact rfl; (first | exact rfl | assumption | exact at_new | (apply at_old; assumption) | (apply at_put; first | assumption | (simp only [put_length]; assumption))); exact fun _ => rfl; (first | omega | (simp only [List.length_set]; omega) | (simp; omega)); exact ⟨rfl, by decide, rfl⟩; exact rfl; case ia => infer_instance) | (apply WO.ldf; exact rfl; exact fun _ => rfl; (first | omega | (simp only [List.length_set]; omega) | (simp; omega)); decide; exact rfl; case ia => infer_instance) | (apply WO.lsf; exact rfl; (first | exact rfl | assumption | exact at_new | (apply at_old; assumption) | (apply at_put; first | assumption | (simp only [put_length]; assumption))); exact fun _ => rfl; (first | omega | (simp only [List.length_set]; omega) | (simp; omega)); decide; exact rfl; case ia => infer_instance) | (apply WO.stf; exact rfl; exact rfl; (first | exact rfl | assumption | exact at_new | (apply at_old; assumption) | (apply at_put; first | assumption | (simp only [put_length]; assumption))); exact fun _ => rfl; (first | omega | (simp only [List.length_set]; omega) | (simp; omega)); exact ⟨rfl, by decide, rfl⟩; exact rfl; case ia => infer_instance) | (apply WO.sneq; exact rfl; exact rfl; all_goals first | (intro h; exact absurd h (by decide)) | (intro h; exact absurd rfl h) | (intro h; contradiction) | intro _) | (apply WO.clb; exact rfl; exact rfl; exact rfl; all_goals first | (intro h; exact absurd h (by decide)) | intro _) | (apply WO.cll; exact rfl; exact rfl; exact rfl) | (apply WO.hlv; exact rfl; exact rfl; exact rfl) | (apply WO.hpv; exact rfl; exact rfl; exact rfl) | (apply WO.hnv; exact rfl; exact rfl; exact rfl) | (apply WO.pl; exact rfl; exact rfl) | (apply WO.pp; exact rfl; exact rfl)
    · rename_i he
      rw [if_pos he] at hd
      rw [hd] at h2
      exact h2 he _ _ _ _ _ _
    · rename_i he hk
      have hk' : ¬ l[i]!.1 = sNone := by rw [f1] at hk; exact hk
      rw [if_neg (fun h => h he), if_neg hk'] at hd
      rw [hd] at h1 h2
      exact LQn (ih (i + 1) l[i]! _ _ _ _ _ (by omega) (by rw [f1]; exact at_put (by simp [put_length])) h1 h2)
    · rename_i he hk
      have hk' : l[i]!.1 = sNone := by rw [f1] at hk; exact hk
      rw [if_neg (fun h => h he), if_pos hk'] at hd
      rw [hd] at h1 h2
      exact LQn (ih (i + 1) v _ _ _ _ _ (by omega) (at_old A2) h1 h2)
end Go.Ab.Ch1


/-
  Own work: mark.Ranks: the ranks of sorted marks.
-/
namespace Go.Ab.Ch1
variable {M : Mach} {cap : Option Nat}

/-- The rank of a mark among others. -/
def rankM (l : List Mk) (m : Mk) : Int := if m.1 = sNone then 0 else ((l.countP fun x => decide (cmpM x m < 0)) : Int) + 1
theorem countP_split {α : Type} [Inhabited α] {S : List α} {P : α → Bool} {p : Nat} (h1 : ∀ k, k < p → P S[k]! = true) (h2 : ∀ k, p ≤ k → k < S.length → ¬ P S[k]! = true) (hp : p ≤ S.length) : S.countP P = p := by
  have e : S = S.take p ++ S.drop p := (List.take_append_drop p S).symm
  have e1 : (S.take p).countP P = p := by
    have : (S.take p).countP P = (S.take p).length := by
      rw [List.countP_eq_length]
      intro a ha
      obtain ⟨k, hk, rfl⟩ := List.mem_iff_getElem.1 ha
      have hk' : k < p := by simp at hk; omega
      have := h1 k hk'
      rw [getElem!_pos S k (by omega)] at this
      simpa using this
    rw [this]; simp; omega
  have e2 : (S.drop p).countP P = 0 := by
    rw [List.countP_eq_zero]
    intro a ha
    obtain ⟨k, hk, rfl⟩ := List.mem_iff_getElem.1 ha
    have hk' : p + k < S.length := by simp at hk; omega
    have := h2 (p + k) (by omega) hk'
    rw [getElem!_pos S _ hk'] at this
    simpa using this
  rw [e, List.countP_append, e1, e2]
  rfl
theorem fill_set {l : List Mk} {f : Mk → Int} {i : Nat} (h : i < l.length) : ((l.take i).map f ++ List.replicate (l.length - i) 0).set i (f l[i]!) = (l.take (i + 1)).map f ++ List.replicate (l.length - (i + 1)) 0 := by
  rw [List.set_append_right _ _ (by simp; omega)]
  rw [show i - ((l.take i).map f).length = 0 by simp; omega, show l.length - i = (l.length - (i + 1)) + 1 by omega, List.replicate_succ, List.set_cons_zero]
  rw [List.take_succ_eq_append_getElem h, getElem!_pos l i h, List.map_append, List.append_assoc]
  rfl
theorem fill_same {l : List Mk} {f : Mk → Int} {i : Nat} (h : i < l.length) (h0 : f l[i]! = 0) : (l.take i).map f ++ List.replicate (l.length - i) 0 = (l.take (i + 1)).map f ++ List.replicate (l.length - (i + 1)) 0 := by
  rw [getElem!_pos l i h] at h0
  rw [List.take_succ_eq_append_getElem h, List.map_append, List.append_assoc, show l.length - i = (l.length - (i + 1)) + 1 by omega, List.replicate_succ, List.map_cons, h0]
  rfl

set_option maxHeartbeats 2000000 in
theorem loop49_1 (C : CRk M) (l S : List Mk) (hn : l.length < 1000000) (hS : S.length = l.length) (hP : S.Perm l) (hsort : ∀ i j, i < j → j < S.length → ¬ cmpM S[j]! S[i]! < 0) (k1 k2 : Nat) (hk : k1 ≠ k2) (a3 a4 a5 a11 a12 a13 : AV) {Q : Ex → StW → Prop} : ∀ (r i : Nat) (hp : Heap) (a8 a9 a10 : AV) (lo : List (Nat × AV)) (wr : List Nat), i + r = l.length →
    hp.at k1 = some (.cells (ints ((l.take i).map (rankM l) ++ List.replicate (l.length - i) 0)) 3) → hp.at k2 = some (.cells (arr cm S) 49) →
    (∀ a8 a9 a10 hp lo wr, hp.at k1 = some (.cells (ints (l.map (rankM l))) 3) → Q (.exit 2) ⟨⟨[.vs (arr cm l) l.length cap, .nilsl, .int .i64 0, a3, a4, a5, .sl k1 0 l.length 1 (some l.length), .sl k2 0 l.length 3 none, a8, a9, a10, a11, a12, a13, .vs (arr cm l) l.length cap, .int .i64 l.length, .int .i64 l.length], lo, hp, []⟩, wr⟩) →
    W M (.loop b49_1) ⟨⟨[.vs (arr cm l) l.length cap, .nilsl, .int .i64 0, a3, a4, a5, .sl k1 0 l.length 1 (some l.length), .sl k2 0 l.length 3 none, a8, a9, a10, a11, a12, a13, .vs (arr cm l) l.length cap, .int .i64 l.length, .int .i64 i], lo, hp, []⟩, wr⟩ Q := by
  intro r
  induction r with
  | zero =>
    intro i hp a8 a9 a10 lo wr hi hv hw h1
    obtain rfl : i = l.length := by omega
    refine W.loop ?_
    unfold b49_1
    repeat' first | apply W.seq | apply SQn | apply W.region | apply WO.nil | apply W.block | apply W.ret | apply W.exit | apply W.skip | apply SQr | apply SQe | apply BQn | apply BQr | apply BQe | (apply BQo; exact rfl) | apply LQe | apply LQr | (apply W.condT; exact rfl) | (apply W.condF; exact rfl) | (apply W.cond; exact rfl; all_goals intro _) | (apply WO.lss; exact rfl; exact rfl; all_goals first | (intro _; exfalso; omega) | intro _) | (apply WO.neq; exact rfl; exact rfl; all_goals first | (intro _; exfalso; omega) | intro _) | (apply WO.add; exact rfl; exact rfl; omega) | (apply WO.iav; exact rfl; exact rfl; omega) | (apply WO.ias; exact rfl; exact rfl; omega) | (apply WO.lda; exact rfl; exact fun _ => rfl; (first | omega | (simp only [List.length_set]; omega) | (simp; omega)); decide; exact rfl; case ia => infer_instance) | (apply WO.lsa; exact rfl; (first | exact rfl | assumption | exact at_new | (apply at_old; assumption) | (apply at_put; first | assumption | (simp only [put_length]; assumption))); exact fun _ => rfl; (first | omega | (simp only [List.length_set]; omega) | (simp; omega)); decide; exact rfl; case ia => infer_instance) | (apply WO.sta; exact rfl; exact rfl; (first | exact rfl | assumption | exact at_new | (apply at_old; assumption) | (apply at_put; first | assumption | (simp only [put_length]; assumption))); exact fun _ => rfl; (first | omega | (simp only [List.length_set]; omega) | (simp; omega)); exact ⟨rfl, by decide, rfl⟩; exact rfl; case ia => infer_instance) | (apply WO.ldf; exact rfl; exact fun _ => rfl; (first | omega | (simp only [List.length_set]; omega) | (simp; omega)); decide; exact rfl; case ia => infer_instance) | (apply WO.lsf; exact rfl; (first | exact rfl | assumption | exact at_new | (apply at_old; assumption) | (apply at_put; first | assumption | (simp only [put_length]; assumption))); exact fun _ => rfl; (first | omega | (simp only [List.length_set]; omega) | (simp; omega)); decide; exact rfl; case ia => infer_instance) | (apply WO.stf; exact rfl; exact rfl; (first | exact rfl | assumption | exact at_new | (apply at_old; assumption) | (apply at_put; first | assumption | (simp only [put_length]; assumption))); exact fun _ => rfl; (first | omega | (simp only [List.length_set]; omega) | (simp; omega)); exact ⟨rfl, by decide, rfl⟩; exact rfl; case ia => infer_instance) | (apply WO.sneq; exact rfl; exact rfl; all_goals first | (intro h; exact absurd h (by decide)) | (intro h; exact absurd rfl h) | (intro h; contradiction) | intro _) | (apply WO.clb; exact rfl; exact rfl; exact rfl; all_goals first | (intro h; exact absurd h (by decide)) | intro _) | (apply WO.cll; exact rfl; exact rfl; exact rfl) | (apply WO.hlv; exact rfl; exact rfl; exact rfl) | (apply WO.hpv; exact rfl; exact rfl; exact rfl) | (apply WO.hnv; exact rfl; exact rfl; exact rfl) | (apply WO.pl; exact rfl; exact rfl) | (apply WO.pp; exact rfl; exact rfl)
    exact h1 _ _ _ _ _ _ (by simpa using hv)
  | succ r ih =>
    intro i hp a8 a9 a10 lo wr hi hv hw h1
    have lt1 := at_lt hv
    have lt2 := at_lt hw
    have f1 : ((i : Int)).toNat = i := by omega
    have hil : ((i : Int)).toNat < l.length := by omega
    have hio : ((i : Int)).toNat < ((l.take i).map (rankM l) ++ List.replicate (l.length - i) (0 : Int)).length := by simp; omega
    have hm1 : hp.length < (hp ++ [some (Blk.cells [.str [], .int .i64 (0), .str []] 49)]).length := by simp
    obtain ⟨m, hm⟩ : ∃ m, m = l[((i : Int)).toNat]! := ⟨_, rfl⟩
    have A1 : Heap.at ((hp ++ [some (Blk.cells [.str [], .int .i64 (0), .str []] 49)]).put hp.length (some (Blk.cells (cm l[((i : Int)).toNat]!) 49))) hp.length = some (.cells (cm l[((i : Int)).toNat]!) 49) := at_put hm1
    have B1 : Heap.at ((hp ++ [some (Blk.cells [.str [], .int .i64 (0), .str []] 49)]).put hp.length (some (Blk.cells (cm l[((i : Int)).toNat]!) 49))) k1 = some (.cells (ints ((l.take i).map (rankM l) ++ List.replicate (l.length - i) 0)) 3) := at_else (by omega) (at_old hv)
    have B2 : Heap.at ((hp ++ [some (Blk.cells [.str [], .int .i64 (0), .str []] 49)]).put hp.length (some (Blk.cells (cm l[((i : Int)).toNat]!) 49))) k2 = some (.cells (arr cm S) 49) := at_else (by omega) (at_old hw)
    obtain ⟨p, f, g1, g2, g3, hcc⟩ := r132 (cap := none) C.pq.ft C.n132 C.c115 S l[((i : Int)).toNat]! (by omega) _ B2 (fun k k' h1 h2 h3 => by
      have h4 := hsort k k' h1 h2
      rw [cmpM_lt] at h3 h4 ⊢
      omega)
    have hcount : (l.countP fun x => decide (cmpM x l[((i : Int)).toNat]! < 0)) = p := by
      rw [← hP.countP_eq]
      exact countP_split (fun k hk => decide_eq_true (g1 k hk)) (fun k hk1 hk2 h => g2 k hk1 hk2 (of_decide_eq_true h)) g3
    rw [hS] at hcc
    refine W.loop ?_
    unfold b49_1
    repeat' first | (apply WO.ldb; exact rfl; exact A1; exact rfl) | (apply WO.stw; exact rfl; exact rfl; exact at_new; exact ⟨rfl, rfl, rfl⟩) | apply W.seq | apply SQn | apply W.region | apply WO.nil | apply W.block | apply W.ret | apply W.exit | apply W.skip | apply SQr | apply SQe | apply BQn | apply BQr | apply BQe | (apply BQo; exact rfl) | apply LQe | apply LQr | (apply W.condT; exact rfl) | (apply W.condF; exact rfl) | (apply W.cond; exact rfl; all_goals intro _) | (apply WO.lss; exact rfl; exact rfl; all_goals first | (intro _; exfalso; omega) | intro _) | (apply WO.neq; exact rfl; exact rfl; all_goals first | (intro _; exfalso; omega) | intro _) | (apply WO.add; exact rfl; exact rfl; omega) | (apply WO.ct; exact rfl; exact rfl; first | exact hcc) | (apply WO.ctn; exact rfl; exact rfl; first | exact hcc) | (apply WD.ct; exact rfl; exact rfl; exact rfl; first | exact hcc) | (apply WO.iav; exact rfl; exact rfl; omega) | (apply WO.ias; exact rfl; exact rfl; omega) | (apply WO.lda; exact rfl; exact fun _ => rfl; (first | omega | (simp only [List.length_set]; omega) | (simp; omega)); decide; exact rfl; case ia => infer_instance) | (apply WO.lsa; exact rfl; (first | exact rfl | assumption | exact at_new | (apply at_old; assumption) | (apply at_put; first | assumption | (simp only [put_length]; assumption))); exact fun _ => rfl; (first | omega | (simp only [List.length_set]; omega) | (simp; omega)); decide; exact rfl; case ia => infer_instance) | (apply WO.sta; exact rfl; exact rfl; (first | exact rfl | assumption | exact at_new | (apply at_old; assumption) | (apply at_put; first | assumption | (simp only [put_length]; assumption))); exact fun _ => rfl; (first | omega | (simp only [List.length_set]; omega) | (simp; omega)); exact ⟨rfl, by decide, rfl⟩; exact rfl; case ia => infer_instance) | (apply WO.ldf; exact rfl; exact fun _ => rfl; (first | omega | (simp only [List.length_set]; omega) | (simp; omega)); decide; exact rfl; case ia => infer_instance) | (apply WO.lsf; exact rfl; (first | exact rfl | assumption | exact at_new | (apply at_old; assumption) | (apply at_put; first | assumption | (simp only [put_length]; assumption))); exact fun _ => rfl; (first | omega | (simp only [List.length_set]; omega) | (simp; omega)); decide; exact rfl; case ia => infer_instance) | (apply WO.stf; exact rfl; exact rfl; (first | exact rfl | assumption | exact at_new | (apply at_old; assumption) | (apply at_put; first | assumption | (simp only [put_length]; assumption))); exact fun _ => rfl; (first | omega | (simp only [List.length_set]; omega) | (simp; omega)); exact ⟨rfl, by decide, rfl⟩; exact rfl; case ia => infer_instance) | (apply WO.sneq; exact rfl; exact rfl; all_goals first | (intro h; exact absurd h (by decide)) | (intro h; exact absurd rfl h) | (intro h; contradiction) | intro _) | (apply WO.clb; exact rfl; exact rfl; exact rfl; all_goals first | (intro h; exact absurd h (by decide)) | intro _) | (apply WO.cll; exact rfl; exact rfl; exact rfl) | (apply WO.hlv; exact rfl; exact rfl; exact rfl) | (apply WO.hpv; exact rfl; exact rfl; exact rfl) | (apply WO.hnv; exact rfl; exact rfl; exact rfl) | (apply WO.pl; exact rfl; exact rfl) | (apply WO.pp; exact rfl; exact rfl)
    · rename_i hk'
      refine LQn (ih (i + 1) _ _ _ _ _ _ (by omega) ?_ ?_ h1)
      · have e : rankM l l[((i : Int)).toNat]! = (p : Int) + 1 := by rw [rankM, if_neg hk', hcount]
        have e2 : ((l.take i).map (rankM l) ++ List.replicate (l.length - i) 0).set ((i : Int)).toNat ((p : Int) + 1) = (l.take (i + 1)).map (rankM l) ++ List.replicate (l.length - (i + 1)) 0 := by
          rw [← e, f1]; exact fill_set (by omega)
        rw [← e2]
        exact at_put (by simp [put_length]; omega)
      · exact at_else (Ne.symm hk) B2
    · rename_i hk'
      refine LQn (ih (i + 1) _ _ _ _ _ _ (by omega) ?_ B2 h1)
      have e : rankM l l[((i : Int)).toNat]! = 0 := by rw [rankM, if_pos hk']
      rw [f1] at e
      rw [← fill_same (by omega) e]
      exact B1
end Go.Ab.Ch1


/-
  Own work: the reference's check and ranks of marks.
-/
namespace Go.Ab.Ch1
variable {M : Mach}

/-- The first error of marks, as the reference looks for it. -/
def refScan (p : List UInt8) : List Mk → Int
  | [] => 0
  | m :: r => if chkM m ≠ 0 then chkM m else if m.1 = sNone then refScan p r else if p ≠ [] ∧ p ≠ m.1 then 13 else refScan m.1 r
theorem refScan_drop {p : List UInt8} {l : List Mk} {i : Nat} (h : i < l.length) : refScan p (l.drop i) = if chkM l[i]! ≠ 0 then chkM l[i]! else if l[i]!.1 = sNone then refScan p (l.drop (i + 1)) else if p ≠ [] ∧ p ≠ l[i]!.1 then 13 else refScan l[i]!.1 (l.drop (i + 1)) := by
  rw [List.drop_eq_getElem_cons h, getElem!_pos l i h, refScan]
/-- The error of a list of marks. -/
def marksE (l : List Mk) : Int := if 256 < l.length then 5 else refScan [] l

set_option maxHeartbeats 1000000 in
theorem loop48_0 (c35 : ∀ m h, M.ext 35 [am m] h = some ⟨.int .i64 (chkM m), h, []⟩) (l : List Mk) (cap : Option Nat) (hn : l.length < 1000000) {Q : Ex → StW → Prop} : ∀ (r i : Nat) (p : List UInt8) (a4 : AV) (lo : List (Nat × AV)) (wr : List Nat), i + r = l.length →
    (refScan p (l.drop i) = 0 → ∀ a2 a3 a4 lo wr, Q (.exit 0) ⟨⟨[.vs (arr cm l) l.length cap, .int .i64 0, a2, a3, a4], lo, [], []⟩, wr⟩) →
    (refScan p (l.drop i) ≠ 0 → ∀ a2 a3 a4 lo wr, Q .ret ⟨⟨[.vs (arr cm l) l.length cap, .int .i64 (refScan p (l.drop i)), a2, a3, a4], lo, [], []⟩, wr⟩) →
    W M (.loop b48_0) ⟨⟨[.vs (arr cm l) l.length cap, .int .i64 0, .str p, .int .i64 i, a4], lo, [], []⟩, wr⟩ Q := by
  intro r
  induction r with
  | zero =>
    intro i p a4 lo wr hi h1 h2
    obtain rfl : i = l.length := by omega
    refine W.loop ?_
    unfold b48_0
    repeat' first | apply W.seq | apply SQn | apply W.region | apply WO.nil | apply W.block | apply W.ret | apply W.exit | apply W.skip | apply SQr | apply SQe | apply BQn | apply BQr | apply BQe | (apply BQo; exact rfl) | apply LQe | apply LQr | (apply W.condT; exact rfl) | (apply W.condF; exact rfl) | (apply W.cond; exact rfl; all_goals intro _) | (apply WO.gT; exact rfl) | (apply WO.gF; exact rfl) | (apply WO.sT; exact rfl) | (apply WO.sF; exact rfl) | (apply WO.sU; exact rfl) | (apply WO.lss; exact rfl; exact rfl; all_goals first | (intro _; exfalso; omega) | intro _) | (apply WO.eql; exact rfl; exact rfl; all_goals first | (intro _; exfalso; omega) | intro _) | (apply WO.neq; exact rfl; exact rfl; all_goals first | (intro _; exfalso; omega) | intro _) | (apply WO.pkT; exact rfl; exact rfl) | (apply WO.pkF; exact rfl; exact rfl) | (apply WO.add; exact rfl; exact rfl; omega) | (apply WO.iav; exact rfl; exact rfl; omega) | (apply WO.ias; exact rfl; exact rfl; omega) | (apply WO.lda; exact rfl; exact fun _ => rfl; (first | omega | (simp only [List.length_set]; omega) | (simp; omega)); decide; exact rfl; case ia => infer_instance) | (apply WO.lsa; exact rfl; (first | exact rfl | assumption | exact at_new | (apply at_old; assumption) | (apply at_put; first | assumption | (simp only [put_length]; assumption))); exact fun _ => rfl; (first | omega | (simp only [List.length_set]; omega) | (simp; omega)); decide; exact rfl; case ia => infer_instance) | (apply WO.ldf; exact rfl; exact fun _ => rfl; (first | omega | (simp only [List.length_set]; omega) | (simp; omega)); decide; exact rfl; case ia => infer_instance) | (apply WO.lsf; exact rfl; (first | exact rfl | assumption | exact at_new | (apply at_old; assumption) | (apply at_put; first | assumption | (simp only [put_length]; assumption))); exact fun _ => rfl; (first | omega | (simp only [List.length_set]; omega) | (simp; omega)); decide; exact rfl; case ia => infer_instance) | (apply WO.seql; exact rfl; exact rfl; all_goals first | (intro h; exact absurd h (by decide)) | (intro h; exact absurd rfl h) | (intro h; contradiction) | intro _) | (apply WO.sneq; exact rfl; exact rfl; all_goals first | (intro h; exact absurd h (by decide)) | (intro h; exact absurd rfl h) | (intro h; contradiction) | intro _) | (apply WO.clb; exact rfl; exact rfl; exact rfl; all_goals first | (intro h; exact absurd h (by decide)) | intro _) | (apply WO.cll; exact rfl; exact rfl; exact rfl) | (apply WO.hlv; exact rfl; exact rfl; exact rfl) | (apply WO.hpv; exact rfl; exact rfl; exact rfl) | (apply WO.hnv; exact rfl; exact rfl; exact rfl) | (apply WO.pl; exact rfl; exact rfl) | (apply WO.pp; exact rfl; exact rfl)
    exact h1 (by simp [refScan]) _ _ _ _ _
  | succ r ih =>
    intro i p a4 lo wr hi h1 h2
    have hd := refScan_drop (p := p) (l := l) (i := i) (by omega)
    have f1 : ((i : Int)).toNat = i := by omega
    rw [← f1] at hd
    refine W.loop ?_
    by_cases hc : chkM l[((i : Int)).toNat]! = 0
    · rw [if_neg (fun h => h hc)] at hd
      have q35 : ∀ h, M.ext 35 [am l[((i : Int)).toNat]!] h = some ⟨.int .i64 0, h, []⟩ := fun h => by rw [c35, hc]
      by_cases hk : l[((i : Int)).toNat]!.1 = sNone
      · rw [if_pos hk] at hd
        unfold b48_0
        repeat' first | apply W.seq | apply SQn | apply W.region | apply WO.nil | apply W.block | apply W.ret | apply W.exit | apply W.skip | apply SQr | apply SQe | apply BQn | apply BQr | apply BQe | (apply BQo; exact rfl) | apply LQe | apply LQr | (apply W.condT; exact rfl) | (apply W.condF; exact rfl) | (apply W.cond; exact rfl; all_goals intro _) | (apply WO.gT; exact rfl) | (apply WO.gF; exact rfl) | (apply WO.sT; exact rfl) | (apply WO.sF; exact rfl) | (apply WO.sU; exact rfl) | (apply WO.lss; exact rfl; exact rfl; all_goals first | (intro _; exfalso; omega) | intro _) | (apply WO.eql; exact rfl; exact rfl; all_goals first | (intro _; exfalso; omega) | intro _) | (apply WO.neq; exact rfl; exact rfl; all_goals first | (intro _; exfalso; omega) | intro _) | (apply WO.pkT; exact rfl; exact rfl) | (apply WO.pkF; exact rfl; exact rfl) | (apply WO.add; exact rfl; exact rfl; omega) | (apply WO.cll; exact rfl; exact rfl; first | exact q35 _) | (apply WO.iav; exact rfl; exact rfl; omega) | (apply WO.ias; exact rfl; exact rfl; omega) | (apply WO.lda; exact rfl; exact fun _ => rfl; (first | omega | (simp only [List.length_set]; omega) | (simp; omega)); decide; exact rfl; case ia => infer_instance) | (apply WO.lsa; exact rfl; (first | exact rfl | assumption | exact at_new | (apply at_old; assumption) | (apply at_put; first | assumption | (simp only [put_length]; assumption))); exact fun _ => rfl; (first | omega | (simp only [List.length_set]; omega) | (simp; omega)); decide; exact rfl; case ia => infer_instance) | (apply WO.ldf; exact rfl; exact fun _ => rfl; (first | omega | (simp only [List.length_set]; omega) | (simp; omega)); decide; exact rfl; case ia => infer_instance) | (apply WO.lsf; exact rfl; (first | exact rfl | assumption | exact at_new | (apply at_old; assumption) | (apply at_put; first | assumption | (simp only [put_length]; assumption))); exact fun _ => rfl; (first | omega | (simp only [List.length_set]; omega) | (simp; omega)); decide; exact rfl; case ia => infer_instance) | (apply WO.seql; exact rfl; exact rfl; all_goals first | (intro h; exact absurd h (by decide)) | (intro h; exact absurd rfl h) | (intro h; contradiction) | intro _) | (apply WO.sneq; exact rfl; exact rfl; all_goals first | (intro h; exact absurd h (by decide)) | (intro h; exact absurd rfl h) | (intro h; contradiction) | intro _) | (apply WO.clb; exact rfl; exact rfl; exact rfl; all_goals first | (intro h; exact absurd h (by decide)) | intro _) | (apply WO.cll; exact rfl; exact rfl; exact rfl) | (apply WO.hlv; exact rfl; exact rfl; exact rfl) | (apply WO.hpv; exact rfl; exact rfl; exact rfl) | (apply WO.hnv; exact rfl; exact rfl; exact rfl) | (apply WO.pl; exact rfl; exact rfl) | (apply WO.pp; exact rfl; exact rfl)
        rw [f1] at hd
        rw [hd] at h1 h2
        exact LQn (ih (i + 1) p _ _ _ (by omega) h1 h2)
      · rw [if_neg hk] at hd
        unfold b48_0
        repeat' first | apply W.seq | apply SQn | apply W.region | apply WO.nil | apply W.block | apply W.ret | apply W.exit | apply W.skip | apply SQr | apply SQe | apply BQn | apply BQr | apply BQe | (apply BQo; exact rfl) | apply LQe | apply LQr | (apply W.condT; exact rfl) | (apply W.condF; exact rfl) | (apply W.cond; exact rfl; all_goals intro _) | (apply WO.gT; exact rfl) | (apply WO.gF; exact rfl) | (apply WO.sT; exact rfl) | (apply WO.sF; exact rfl) | (apply WO.sU; exact rfl) | (apply WO.lss; exact rfl; exact rfl; all_goals first | (intro _; exfalso; omega) | intro _) | (apply WO.eql; exact rfl; exact rfl; all_goals first | (intro _; exfalso; omega) | intro _) | (apply WO.neq; exact rfl; exact rfl; all_goals first | (intro _; exfalso; omega) | intro _) | (apply WO.pkT; exact rfl; exact rfl) | (apply WO.pkF; exact rfl; exact rfl) | (apply WO.add; exact rfl; exact rfl; omega) | (apply WO.cll; exact rfl; exact rfl; first | exact q35 _) | (apply WO.iav; exact rfl; exact rfl; omega) | (apply WO.ias; exact rfl; exact rfl; omega) | (apply WO.lda; exact rfl; exact fun _ => rfl; (first | omega | (simp only [List.length_set]; omega) | (simp; omega)); decide; exact rfl; case ia => infer_instance) | (apply WO.lsa; exact rfl; (first | exact rfl | assumption | exact at_new | (apply at_old; assumption) | (apply at_put; first | assumption | (simp only [put_length]; assumption))); exact fun _ => rfl; (first | omega | (simp only [List.length_set]; omega) | (simp; omega)); decide; exact rfl; case ia => infer_instance) | (apply WO.ldf; exact rfl; exact fun _ => rfl; (first | omega | (simp only [List.length_set]; omega) | (simp; omega)); decide; exact rfl; case ia => infer_instance) | (apply WO.lsf; exact rfl; (first | exact rfl | assumption | exact at_new | (apply at_old; assumption) | (apply at_put; first | assumption | (simp only [put_length]; assumption))); exact fun _ => rfl; (first | omega | (simp only [List.length_set]; omega) | (simp; omega)); decide; exact rfl; case ia => infer_instance) | (apply WO.seql; exact rfl; exact rfl; all_goals first | (intro h; exact absurd h (by decide)) | (intro h; exact absurd rfl h) | (intro h; contradiction) | intro _) | (apply WO.sneq; exact rfl; exact rfl; all_goals first | (intro h; exact absurd h (by decide)) | (intro h; exact absurd rfl h) | (intro h; contradiction) | intro _) | (apply WO.clb; exact rfl; exact rfl; exact rfl; all_goals first | (intro h; exact absurd h (by decide)) | intro _) | (apply WO.cll; exact rfl; exact rfl; exact rfl) | (apply WO.hlv; exact rfl; exact rfl; exact rfl) | (apply WO.hpv; exact rfl; exact rfl; exact rfl) | (apply WO.hnv; exact rfl; exact rfl; exact rfl) | (apply WO.pl; exact rfl; exact rfl) | (apply WO.pp; exact rfl; exact rfl)
        · rename_i g1 g2
          rw [if_pos ⟨g1, g2⟩, f1] at hd
          rw [hd] at h2
          exact h2 (by omega) _ _ _ _ _
        · rename_i g1 g2
          rw [if_neg (fun h => h.2 g2), f1] at hd
          rw [hd] at h1 h2
          exact LQn (ih (i + 1) l[i]!.1 _ _ _ (by omega) h1 h2)
        · rename_i g1
          rw [if_neg (fun h => h.1 g1), f1] at hd
          rw [hd] at h1 h2
          exact LQn (ih (i + 1) l[i]!.1 _ _ _ (by omega) h1 h2)
    · rw [if_pos hc] at hd
      have q35 : ∀ h, M.ext 35 [am l[((i : Int)).toNat]!] h = some ⟨.int .i64 (chkM l[((i : Int)).toNat]!), h, []⟩ := fun h => c35 _ _
      unfold b48_0
      repeat' first | apply W.seq | apply SQn | apply W.region | apply WO.nil | apply W.block | apply W.ret | apply W.exit | apply W.skip | apply SQr | apply SQe | apply BQn | apply BQr | apply BQe | (apply BQo; exact rfl) | apply LQe | apply LQr | (apply W.condT; exact rfl) | (apply W.condF; exact rfl) | (apply W.cond; exact rfl; all_goals intro _) | (apply WO.gT; exact rfl) | (apply WO.gF; exact rfl) | (apply WO.sT; exact rfl) | (apply WO.sF; exact rfl) | (apply WO.sU; exact rfl) | (apply WO.lss; exact rfl; exact rfl; all_goals first | (intro _; exfalso; omega) | intro _) | (apply WO.eql; exact rfl; exact rfl; all_goals first | (intro _; exfalso; omega) | intro _) | (apply WO.neq; exact rfl; exact rfl; all_goals first | (intro _; exfalso; omega) | intro _) | (apply WO.pkT; exact rfl; exact rfl) | (apply WO.pkF; exact rfl; exact rfl) | (apply WO.add; exact rfl; exact rfl; omega) | (apply WO.cll; exact rfl; exact rfl; first | exact q35 _) | (apply WO.iav; exact rfl; exact rfl; omega) | (apply WO.ias; exact rfl; exact rfl; omega) | (apply WO.lda; exact rfl; exact fun _ => rfl; (first | omega | (simp only [List.length_set]; omega) | (simp; omega)); decide; exact rfl; case ia => infer_instance) | (apply WO.lsa; exact rfl; (first | exact rfl | assumption | exact at_new | (apply at_old; assumption) | (apply at_put; first | assumption | (simp only [put_length]; assumption))); exact fun _ => rfl; (first | omega | (simp only [List.length_set]; omega) | (simp; omega)); decide; exact rfl; case ia => infer_instance) | (apply WO.ldf; exact rfl; exact fun _ => rfl; (first | omega | (simp only [List.length_set]; omega) | (simp; omega)); decide; exact rfl; case ia => infer_instance) | (apply WO.lsf; exact rfl; (first | exact rfl | assumption | exact at_new | (apply at_old; assumption) | (apply at_put; first | assumption | (simp only [put_length]; assumption))); exact fun _ => rfl; (first | omega | (simp only [List.length_set]; omega) | (simp; omega)); decide; exact rfl; case ia => infer_instance) | (apply WO.seql; exact rfl; exact rfl; all_goals first | (intro h; exact absurd h (by decide)) | (intro h; exact absurd rfl h) | (intro h; contradiction) | intro _) | (apply WO.sneq; exact rfl; exact rfl; all_goals first | (intro h; exact absurd h (by decide)) | (intro h; exact absurd rfl h) | (intro h; contradiction) | intro _) | (apply WO.clb; exact rfl; exact rfl; exact rfl; all_goals first | (intro h; exact absurd h (by decide)) | intro _) | (apply WO.cll; exact rfl; exact rfl; exact rfl) | (apply WO.hlv; exact rfl; exact rfl; exact rfl) | (apply WO.hpv; exact rfl; exact rfl; exact rfl) | (apply WO.hnv; exact rfl; exact rfl; exact rfl) | (apply WO.pl; exact rfl; exact rfl) | (apply WO.pp; exact rfl; exact rfl)
      rw [f1] at hd
      rw [hd] at h2
      exact h2 (by rw [← f1]; exact hc) _ _ _ _ _
theorem w48 (hft : M.FT = FT) (c35 : ∀ m h, M.ext 35 [am m] h = some ⟨.int .i64 (chkM m), h, []⟩) (l : List Mk) (cap : Option Nat) (hn : l.length < 1000000) : Run M 48 [.vs (arr cm l) l.length cap] [] ⟨.int .i64 (marksE l), [], []⟩ := by
  refine run_of_W (by rw [hft]; exact ft48) (by simp) ?_
  unfold b48
  simp only [List.map_cons, List.map_nil, List.getElem?_cons_zero, List.getElem?_cons_succ, List.getElem?_nil, Option.getD_some, Option.getD_none]
  repeat' first | apply W.seq | apply SQn | apply W.region | apply WO.nil | apply W.block | apply W.ret | apply W.exit | apply W.skip | apply SQr | apply SQe | apply BQn | apply BQr | apply BQe | (apply BQo; exact rfl) | apply LQe | apply LQr | (apply W.condT; exact rfl) | (apply W.condF; exact rfl) | (apply W.cond; exact rfl; all_goals intro _) | (apply WO.gtr; exact rfl; exact rfl; all_goals first | (intro _; exfalso; omega) | intro _) | (apply WO.pl; exact rfl; exact rfl) | (apply WO.pp; exact rfl; exact rfl)
  · rw [marksE, if_pos (by omega)]
    exact ⟨.inr rfl, rfl, _, rfl, rfl, rfl⟩
  · rename_i hl
    rw [marksE, if_neg (by omega)]
    refine loop48_0 c35 l cap hn l.length 0 [] _ _ _ (by omega) (fun h a2 a3 a4 lo wr => ?_) (fun h a2 a3 a4 lo wr => ?_)
    · rw [List.drop_zero] at h
      rw [h]
      repeat' first | apply W.seq | apply SQn | apply W.region | apply WO.nil | apply W.block | apply W.ret | apply W.exit | apply W.skip | apply SQr | apply SQe | apply BQn | apply BQr | apply BQe | (apply BQo; exact rfl) | apply LQe | apply LQr | (apply W.condT; exact rfl) | (apply W.condF; exact rfl) | (apply W.cond; exact rfl; all_goals intro _) | (apply WO.gtr; exact rfl; exact rfl; all_goals first | (intro _; exfalso; omega) | intro _) | (apply WO.pl; exact rfl; exact rfl) | (apply WO.pp; exact rfl; exact rfl)
      exact ⟨.inr rfl, rfl, _, rfl, rfl, rfl⟩
    · repeat' first | apply W.seq | apply SQn | apply W.region | apply WO.nil | apply W.block | apply W.ret | apply W.exit | apply W.skip | apply SQr | apply SQe | apply BQn | apply BQr | apply BQe | (apply BQo; exact rfl) | apply LQe | apply LQr | (apply W.condT; exact rfl) | (apply W.condF; exact rfl) | (apply W.cond; exact rfl; all_goals intro _) | (apply WO.gtr; exact rfl; exact rfl; all_goals first | (intro _; exfalso; omega) | intro _) | (apply WO.pl; exact rfl; exact rfl) | (apply WO.pp; exact rfl; exact rfl)
      exact ⟨.inr rfl, rfl, _, rfl, rfl, rfl⟩

/-! The two checks agree. -/
theorem refScan_scan : ∀ (l : List Mk) (v : Mk) (p : List UInt8), (v.1 = sNone ∧ p = []) ∨ (v.1 = p ∧ p ≠ [] ∧ p ≠ sNone) → scan v l = refScan p l
  | [], _, _, _ => rfl
  | m :: r, v, p, h => by
    rw [scan, refScan]
    by_cases hc : chkM m = 0
    · have hs : stepE v m = if differ v.1 m.1 then 13 else 0 := by
        simp only [stepE, firstNZ, hc, if_true]
        split <;> simp_all
      rw [hs, if_neg (show ¬ chkM m ≠ 0 from fun h => h hc)]
      by_cases hk : m.1 = sNone
      · have hd : differ v.1 m.1 = false := decide_eq_false (fun h => h.2.2 hk)
        rw [hd]
        simp only [hk, if_true, Bool.false_eq_true, if_false, ne_eq, not_true]
        exact refScan_scan r v p h
      · rw [if_neg hk]
        rcases h with ⟨h1, h2⟩ | ⟨h1, h2, h3⟩
        · have hd : differ v.1 m.1 = false := decide_eq_false (fun h => h.2.1 h1)
          rw [hd, if_neg (show ¬ ((if false = true then (13 : Int) else 0) ≠ 0) by decide), if_neg hk, if_neg (show ¬ (p ≠ [] ∧ p ≠ m.1) from fun h => h.1 h2)]
          refine refScan_scan r m m.1 (.inr ⟨rfl, fun h0 => ?_, hk⟩)
          simp only [chkM, h0, chk] at hc
          revert hc
          simp [known]
        · by_cases hpk : p = m.1
          · have hd : differ v.1 m.1 = false := decide_eq_false (fun h => h.1 (h1.trans hpk))
            rw [hd, if_neg (show ¬ ((if false = true then (13 : Int) else 0) ≠ 0) by decide), if_neg hk, if_neg (show ¬ (p ≠ [] ∧ p ≠ m.1) from fun h => h.2 hpk)]
            exact refScan_scan r m m.1 (.inr ⟨rfl, hpk ▸ h2, hk⟩)
          · have hd : differ v.1 m.1 = true := decide_eq_true ⟨fun h => hpk (h1.symm.trans h), fun h => h3 (h1.symm.trans h), hk⟩
            rw [hd, if_pos (show (if true = true then (13 : Int) else 0) ≠ 0 by decide), if_neg hk, if_pos (show p ≠ [] ∧ p ≠ m.1 from ⟨h2, hpk⟩)]
            rfl
    · have hs : stepE v m = chkM m := by
        simp only [stepE, firstNZ]
        rw [if_neg hc]
      rw [hs, if_pos hc, if_pos hc]
theorem scan_marksE {l : List Mk} (hn : ¬ 256 < l.length) : scan (sNone, 0, []) l = marksE l := by
  rw [marksE, if_neg hn]
  exact refScan_scan l _ _ (.inl ⟨rfl, rfl⟩)
/-- Marks without an error: each one is a mark, and no two differ in kind. -/
theorem refScan_ok : ∀ (l : List Mk) (p : List UInt8), refScan p l = 0 → ∀ a ∈ l, chkM a = 0 ∧ (p ≠ [] → differ p a.1 = false) ∧ ∀ b ∈ l, differ a.1 b.1 = false
  | [], _, _, _, ha => by cases ha
  | m :: r, p, h, a, ha => by
    rw [refScan] at h
    by_cases hc : chkM m = 0
    · rw [if_neg (fun h => h hc)] at h
      by_cases hk : m.1 = sNone
      · rw [if_pos hk] at h
        have ih := refScan_ok r p h
        have d1 : ∀ k, differ m.1 k = false := fun k => decide_eq_false (fun h => h.2.1 hk)
        have d2 : ∀ k, differ k m.1 = false := fun k => decide_eq_false (fun h => h.2.2 hk)
        rcases List.mem_cons.1 ha with rfl | ha
        · exact ⟨hc, fun _ => d2 _, fun b _ => d1 _⟩
        · obtain ⟨i1, i2, i3⟩ := ih a ha
          refine ⟨i1, i2, fun b hb => ?_⟩
          rcases List.mem_cons.1 hb with rfl | hb
          · exact d2 _
          · exact i3 b hb
      · rw [if_neg hk] at h
        have hm0 : m.1 ≠ [] := fun h0 => by
          simp only [chkM, h0, chk] at hc
          revert hc
          simp [known]
        by_cases hp : p ≠ [] ∧ p ≠ m.1
        · rw [if_pos hp] at h; exact absurd h (by decide)
        · rw [if_neg hp] at h
          have ih := refScan_ok r m.1 h
          have hpm : p ≠ [] → p = m.1 := fun h1 => Decidable.byContradiction fun h2 => hp ⟨h1, h2⟩
          have d0 : differ m.1 m.1 = false := decide_eq_false (fun h => h.1 rfl)
          have sym : ∀ x y, differ x y = false → differ y x = false := fun x y h => decide_eq_false fun h2 => of_decide_eq_false h ⟨fun e => h2.1 e.symm, h2.2.2, h2.2.1⟩
          rcases List.mem_cons.1 ha with rfl | ha
          · refine ⟨hc, fun h1 => by rw [hpm h1]; exact d0, fun b hb => ?_⟩
            rcases List.mem_cons.1 hb with rfl | hb
            · exact d0
            · exact (ih b hb).2.1 hm0
          · obtain ⟨i1, i2, i3⟩ := ih a ha
            refine ⟨i1, fun h1 => by rw [hpm h1]; exact i2 hm0, fun b hb => ?_⟩
            rcases List.mem_cons.1 hb with rfl | hb
            · exact sym _ _ (i2 hm0)
            · exact i3 b hb
    · rw [if_pos hc] at h; exact absurd h hc

theorem count_take {l : List Mk} {P : Mk → Bool} {k : Nat} (h : k < l.length) : (l.take (k + 1)).countP P = (l.take k).countP P + if P l[k]! then 1 else 0 := by
  rw [List.take_succ_eq_append_getElem h, List.countP_append, getElem!_pos l k h]
  simp [List.countP_cons]

/-- The ranks so far. -/
def OutS (hp : Heap) (o : AV) (acc : List Int) : Prop := (acc = [] ∧ o = .nilsl) ∨ ∃ c, acc ≠ [] ∧ o = .sl c 0 acc.length 1 none ∧ hp.at c = some (.cells (ints acc) 3)
theorem OutS.push {t : Nat} {M : Mach} {x : Int} {l : List IOper} {pe : List AV} {lo : List (Nat × AV)} {hp : Heap} {df wr : List Nat} {a b : IOpd} {o : AV} {acc : List Int} {Q : StW → Prop} (h : OutS hp o acc) (ha : (St.mk pe lo (hp ++ [some (.cells [.int .i64 x] 3)]) df).opd a = some o) (hb : (St.mk pe lo (hp ++ [some (.cells [.int .i64 x] 3)]) df).opd b = some (.sl hp.length 0 1 1 (some 1)))
    (hn : acc.length < 1000000) (hQ : ∀ (H : Heap) (w' : List Nat) o', OutS H o' (acc ++ [x]) → WO M l ⟨⟨pe, (t, o') :: lo, H, df⟩, w'⟩ Q) : WO M (⟨.l t, .append 3 1 8 a b, none⟩ :: l) ⟨⟨pe, lo, hp ++ [some (.cells [.int .i64 x] 3)], df⟩, wr⟩ Q := by
  rcases h with ⟨rfl, rfl⟩ | ⟨c, _, rfl, hc⟩
  · have hs : sliceCells (hp ++ [some (.cells [.int .i64 x] 3)]) (.sl hp.length 0 1 1 (some 1)) = some ([.int .i64 x], 1) := by
      simp [sliceCells, at_new, cut]
    refine WO.apn ha hb hs ⟨rfl, by decide, rfl⟩ ⟨by decide, by decide⟩ (hQ _ _ _ (.inr ⟨_, by simp, rfl, at_new⟩))
  · refine WO.app1 ha hb rfl hc ((arr_length (f := fun x : Int => [AV.int .i64 x]) (esz := 1) (fun _ => rfl) acc).trans (Nat.mul_one _)) (.inl rfl) hn (fun H w' h1 h2 _ => hQ H w' _ (.inr ⟨hp.length + 1, by simp, by simp, ?_⟩))
    rw [h2]
    simp [ints, arr]

end Go.Ab.Ch1


/-
  Own work: mark.Ranks whole.
-/
namespace Go.Ab.Ch1
variable {M : Mach} {cap : Option Nat}

abbrev vNone : Mk := (sNone, 0, [])

/-- Nothing to sort. -/
theorem r231nil (C : CPq M) (g : AV) (h : Heap) : CT M (fnM 231) [.vs [] 0 none, .int .i64 0, .int .i64 0, g] h ⟨.tup [], h, []⟩ := by
  refine CT.run (C.n231 _ _) (run_same (by rw [C.ft]; exact ft231) (by simp) ?_)
  unfold b231
  simp only [List.nil_append, List.append_nil]
  simp only [List.map_cons, List.map_nil, List.getElem?_cons_zero, List.getElem?_cons_succ, List.getElem?_nil, Option.getD_some, Option.getD_none]
  repeat' first | apply W.seq | apply SQn | apply W.region | apply WO.nil | apply W.block | apply W.ret | apply W.exit | apply W.skip | apply SQr | apply SQe | apply BQn | apply BQr | apply BQe | (apply BQo; exact rfl) | apply LQe | apply LQr | (apply W.condT; exact rfl) | (apply W.condF; exact rfl) | (apply W.cond; exact rfl; all_goals intro _) | (apply WO.lss; exact rfl; exact rfl; all_goals first | (intro _; exfalso; omega) | intro _) | (apply WO.add; exact rfl; exact rfl; omega) | (apply WO.pl; exact rfl; exact rfl) | (apply WO.pp; exact rfl; exact rfl)
  refine W.loop ?_
  unfold b231_1
  repeat' first | apply W.seq | apply SQn | apply W.region | apply WO.nil | apply W.block | apply W.ret | apply W.exit | apply W.skip | apply SQr | apply SQe | apply BQn | apply BQr | apply BQe | (apply BQo; exact rfl) | apply LQe | apply LQr | (apply W.condT; exact rfl) | (apply W.condF; exact rfl) | (apply W.cond; exact rfl; all_goals intro _) | (apply WO.lss; exact rfl; exact rfl; all_goals first | (intro _; exfalso; omega) | intro _) | (apply WO.add; exact rfl; exact rfl; omega) | (apply WO.pl; exact rfl; exact rfl) | (apply WO.pp; exact rfl; exact rfl)
  exact ⟨.inl rfl, rfl, rfl, rfl, _, rfl, rfl⟩
theorem r190nil (C : CPq M) (g : AV) (r : Int) (h : Heap) : CT M (fnM 190) [.vs [] 0 none, .int .i64 0, .int .i64 0, .int .i64 r, g] h ⟨.tup [], h, []⟩ := by
  have hcc := r231nil C g h
  refine CT.run (C.n190 _ _) (run_same (by rw [C.ft]; exact ft190) (by simp) ?_)
  unfold b190
  simp only [List.nil_append, List.append_nil]
  simp only [List.map_cons, List.map_nil, List.getElem?_cons_zero, List.getElem?_cons_succ, List.getElem?_nil, Option.getD_some, Option.getD_none]
  repeat' first | apply W.seq | apply SQn | apply W.region | apply WO.nil | apply W.block | apply W.ret | apply W.exit | apply W.skip | apply SQr | apply SQe | apply BQn | apply BQr | apply BQe | (apply BQo; exact rfl) | apply LQe | apply LQr | (apply W.drawro; exact rfl) | apply W.draw | apply WD.nil | (apply WD.gT; exact rfl) | (apply WD.gF; exact rfl) | (apply WD.sT; exact rfl) | (apply WD.sF; exact rfl) | (apply WD.sU; exact rfl) | (apply WD.pure1; exact rfl) | (apply WD.load1; exact rfl; exact rfl; exact rfl) | (apply WD.clb; exact rfl; exact rfl; exact rfl; exact rfl; all_goals first | (intro h; exact absurd h (by decide)) | intro _) | (apply WD.cl0; exact rfl; exact rfl; exact rfl; exact rfl) | (apply WD.cl1; exact rfl; exact rfl; exact rfl; exact rfl) | (apply W.condT; exact rfl) | (apply W.condF; exact rfl) | (apply W.cond; exact rfl; all_goals intro _) | (apply WO.gT; exact rfl) | (apply WO.gF; exact rfl) | (apply WO.sT; exact rfl) | (apply WO.sF; exact rfl) | (apply WO.sU; exact rfl) | (apply WO.lss; exact rfl; exact rfl; all_goals first | (intro _; exfalso; omega) | intro _) | (apply WO.leq; exact rfl; exact rfl; all_goals first | (intro _; exfalso; omega) | intro _) | (apply WO.gtr; exact rfl; exact rfl; all_goals first | (intro _; exfalso; omega) | intro _) | (apply WO.geq; exact rfl; exact rfl; all_goals first | (intro _; exfalso; omega) | intro _) | (apply WO.eql; exact rfl; exact rfl; all_goals first | (intro _; exfalso; omega) | intro _) | (apply WO.pkT; exact rfl; exact rfl) | (apply WO.pkF; exact rfl; exact rfl) | (apply WO.add; exact rfl; exact rfl; omega) | (apply WO.sub; exact rfl; exact rfl; omega) | (apply WO.quop; exact rfl; exact rfl; omega; omega; intro _ _) | (apply WO.quon; exact rfl; exact rfl; omega; omega; intro _ _) | (apply WO.quo; exact rfl; exact rfl; omega; omega) | (apply WO.iav; exact rfl; exact rfl; omega) | (apply WO.ias; exact rfl; exact rfl; omega) | (apply WO.lda; exact rfl; exact fun _ => rfl; (first | omega | (simp only [List.length_set]; omega) | (simp; omega)); decide; exact rfl; case ia => infer_instance) | (apply WO.lsa; exact rfl; (first | exact rfl | assumption | exact at_new | (apply at_old; assumption) | (apply at_put; first | assumption | (simp only [put_length]; assumption))); exact fun _ => rfl; (first | omega | (simp only [List.length_set]; omega) | (simp; omega)); decide; exact rfl; case ia => infer_instance) | (apply WO.seql; exact rfl; exact rfl; all_goals first | (intro h; exact absurd h (by decide)) | (intro h; exact absurd rfl h) | (intro h; contradiction) | intro _) | (apply WO.clb; exact rfl; exact rfl; exact rfl; all_goals first | (intro h; exact absurd h (by decide)) | intro _) | (apply WO.cll; exact rfl; exact rfl; exact rfl) | (apply WO.hlv; exact rfl; exact rfl; exact rfl) | (apply WO.hpv; exact rfl; exact rfl; exact rfl) | (apply WO.hnv; exact rfl; exact rfl; exact rfl) | (apply WO.pl; exact rfl; exact rfl) | (apply WO.pp; exact rfl; exact rfl)
  refine W.loop ?_
  unfold b190_0
  repeat' first | apply W.seq | apply SQn | apply W.region | apply WO.nil | apply W.block | apply W.ret | apply W.exit | apply W.skip | apply SQr | apply SQe | apply BQn | apply BQr | apply BQe | (apply BQo; exact rfl) | apply LQe | apply LQr | (apply W.drawro; exact rfl) | apply W.draw | apply WD.nil | (apply WD.gT; exact rfl) | (apply WD.gF; exact rfl) | (apply WD.sT; exact rfl) | (apply WD.sF; exact rfl) | (apply WD.sU; exact rfl) | (apply WD.pure1; exact rfl) | (apply WD.load1; exact rfl; exact rfl; exact rfl) | (apply WD.clb; exact rfl; exact rfl; exact rfl; exact rfl; all_goals first | (intro h; exact absurd h (by decide)) | intro _) | (apply WD.cl0; exact rfl; exact rfl; exact rfl; exact rfl) | (apply WD.cl1; exact rfl; exact rfl; exact rfl; exact rfl) | (apply W.condT; exact rfl) | (apply W.condF; exact rfl) | (apply W.cond; exact rfl; all_goals intro _) | (apply WO.gT; exact rfl) | (apply WO.gF; exact rfl) | (apply WO.sT; exact rfl) | (apply WO.sF; exact rfl) | (apply WO.sU; exact rfl) | (apply WO.lss; exact rfl; exact rfl; all_goals first | (intro _; exfalso; omega) | intro _) | (apply WO.leq; exact rfl; exact rfl; all_goals first | (intro _; exfalso; omega) | intro _) | (apply WO.gtr; exact rfl; exact rfl; all_goals first | (intro _; exfalso; omega) | intro _) | (apply WO.geq; exact rfl; exact rfl; all_goals first | (intro _; exfalso; omega) | intro _) | (apply WO.eql; exact rfl; exact rfl; all_goals first | (intro _; exfalso; omega) | intro _) | (apply WO.pkT; exact rfl; exact rfl) | (apply WO.pkF; exact rfl; exact rfl) | (apply WO.add; exact rfl; exact rfl; omega) | (apply WO.sub; exact rfl; exact rfl; omega) | (apply WO.quop; exact rfl; exact rfl; omega; omega; intro _ _) | (apply WO.quon; exact rfl; exact rfl; omega; omega; intro _ _) | (apply WO.quo; exact rfl; exact rfl; omega; omega) | (apply WO.ct; exact rfl; exact rfl; first | exact hcc) | (apply WO.ctn; exact rfl; exact rfl; first | exact hcc) | (apply WD.ct; exact rfl; exact rfl; exact rfl; first | exact hcc) | (apply WO.iav; exact rfl; exact rfl; omega) | (apply WO.ias; exact rfl; exact rfl; omega) | (apply WO.lda; exact rfl; exact fun _ => rfl; (first | omega | (simp only [List.length_set]; omega) | (simp; omega)); decide; exact rfl; case ia => infer_instance) | (apply WO.lsa; exact rfl; (first | exact rfl | assumption | exact at_new | (apply at_old; assumption) | (apply at_put; first | assumption | (simp only [put_length]; assumption))); exact fun _ => rfl; (first | omega | (simp only [List.length_set]; omega) | (simp; omega)); decide; exact rfl; case ia => infer_instance) | (apply WO.seql; exact rfl; exact rfl; all_goals first | (intro h; exact absurd h (by decide)) | (intro h; exact absurd rfl h) | (intro h; contradiction) | intro _) | (apply WO.clb; exact rfl; exact rfl; exact rfl; all_goals first | (intro h; exact absurd h (by decide)) | intro _) | (apply WO.cll; exact rfl; exact rfl; exact rfl) | (apply WO.hlv; exact rfl; exact rfl; exact rfl) | (apply WO.hpv; exact rfl; exact rfl; exact rfl) | (apply WO.hnv; exact rfl; exact rfl; exact rfl) | (apply WO.pl; exact rfl; exact rfl) | (apply WO.pp; exact rfl; exact rfl)
  exact ⟨.inr rfl, rfl, rfl, rfl, _, rfl, rfl⟩
theorem r131nil (C : CPq M) (g : AV) (h : Heap) : CT M (fnM 131) [.vs [] 0 none, g] h ⟨.tup [], h, []⟩ := by
  obtain ⟨r, hr, h191⟩ := r191 C 0 (by omega) h
  have hcc := r190nil C g r h
  refine CT.run (C.n131 _ _) (run_same (by rw [C.ft]; exact ft131) (by simp) ?_)
  unfold b131
  simp only [List.nil_append, List.append_nil]
  simp only [List.map_cons, List.map_nil, List.getElem?_cons_zero, List.getElem?_cons_succ, List.getElem?_nil, Option.getD_some, Option.getD_none]
  repeat' first | apply W.seq | apply SQn | apply W.region | apply WO.nil | apply W.block | apply W.ret | apply W.exit | apply W.skip | apply SQr | apply SQe | apply BQn | apply BQr | apply BQe | (apply BQo; exact rfl) | apply LQe | apply LQr | (apply W.condT; exact rfl) | (apply W.condF; exact rfl) | (apply W.cond; exact rfl; all_goals intro _) | (apply WO.cvu; exact rfl; omega) | (apply WO.ct; exact rfl; exact rfl; first | exact h191 | exact hcc) | (apply WO.ctn; exact rfl; exact rfl; first | exact h191 | exact hcc) | (apply WD.ct; exact rfl; exact rfl; exact rfl; first | exact h191 | exact hcc) | (apply WO.clb; exact rfl; exact rfl; exact rfl; all_goals first | (intro h; exact absurd h (by decide)) | intro _) | (apply WO.cll; exact rfl; exact rfl; exact rfl) | (apply WO.pl; exact rfl; exact rfl) | (apply WO.pp; exact rfl; exact rfl)
  exact ⟨.inl rfl, rfl, rfl, rfl, _, rfl, rfl⟩

theorem w49many (C : CRk M) (l : List Mk) (hn : 256 < l.length) (hl : l.length < 1000000) : Run M 49 [.vs (arr cm l) l.length cap] [] ⟨.tup [.nilsl, .int .i64 5], [], []⟩ := by
  refine run_of_W (by rw [C.pq.ft]; exact ft49) (by simp) ?_
  unfold b49
  simp only [List.map_cons, List.map_nil, List.getElem?_cons_zero, List.getElem?_cons_succ, List.getElem?_nil, Option.getD_some, Option.getD_none]
  repeat' first | apply W.seq | apply SQn | apply W.region | apply WO.nil | apply W.block | apply W.ret | apply W.exit | apply W.skip | apply SQr | apply SQe | apply BQn | apply BQr | apply BQe | (apply BQo; exact rfl) | apply LQe | apply LQr | (apply W.condT; exact rfl) | (apply W.condF; exact rfl) | (apply W.cond; exact rfl; all_goals intro _) | (apply WO.gtr; exact rfl; exact rfl; all_goals first | (intro _; exfalso; omega) | intro _) | (apply WO.mki; exact rfl; exact rfl; omega) | (apply WO.mkb; exact rfl; exact rfl; omega) | (apply WO.clb; exact rfl; exact rfl; exact rfl; all_goals first | (intro h; exact absurd h (by decide)) | intro _) | (apply WO.cll; exact rfl; exact rfl; exact rfl) | (apply WO.hlv; exact rfl; exact rfl; exact rfl) | (apply WO.hpv; exact rfl; exact rfl; exact rfl) | (apply WO.hnv; exact rfl; exact rfl; exact rfl) | (apply WO.pl; exact rfl; exact rfl) | (apply WO.pp; exact rfl; exact rfl)
  exact ⟨.inr rfl, rfl, _, rfl, rfl, rfl⟩
theorem w49bad (C : CRk M) (l : List Mk) (hn : l.length ≤ 256) (he : scan vNone l ≠ 0) : Run M 49 [.vs (arr cm l) l.length cap] [] ⟨.tup [.nilsl, .int .i64 (scan vNone l)], [], []⟩ := by
  refine run_of_W (by rw [C.pq.ft]; exact ft49) (by simp) ?_
  unfold b49
  simp only [List.map_cons, List.map_nil, List.getElem?_cons_zero, List.getElem?_cons_succ, List.getElem?_nil, Option.getD_some, Option.getD_none]
  repeat' first | apply W.seq | apply SQn | apply W.region | apply WO.nil | apply W.block | apply W.ret | apply W.exit | apply W.skip | apply SQr | apply SQe | apply BQn | apply BQr | apply BQe | (apply BQo; exact rfl) | apply LQe | apply LQr | (apply W.condT; exact rfl) | (apply W.condF; exact rfl) | (apply W.cond; exact rfl; all_goals intro _) | (apply WO.gtr; exact rfl; exact rfl; all_goals first | (intro _; exfalso; omega) | intro _) | (apply WO.mki; exact rfl; exact rfl; omega) | (apply WO.mkb; exact rfl; exact rfl; omega) | (apply WO.clb; exact rfl; exact rfl; exact rfl; all_goals first | (intro h; exact absurd h (by decide)) | intro _) | (apply WO.cll; exact rfl; exact rfl; exact rfl) | (apply WO.hlv; exact rfl; exact rfl; exact rfl) | (apply WO.hpv; exact rfl; exact rfl; exact rfl) | (apply WO.hnv; exact rfl; exact rfl; exact rfl) | (apply WO.pl; exact rfl; exact rfl) | (apply WO.pp; exact rfl; exact rfl)
  refine loop49_0 C l (by omega) _ _ _ _ _ _ _ _ l.length 0 vNone _ _ _ _ _ (by omega) rfl (fun h => absurd h he) (fun _ a4 a5 a13 hp lo wr => ?_)
  repeat' first | apply W.seq | apply SQn | apply W.region | apply WO.nil | apply W.block | apply W.ret | apply W.exit | apply W.skip | apply SQr | apply SQe | apply BQn | apply BQr | apply BQe | (apply BQo; exact rfl) | apply LQe | apply LQr | (apply W.condT; exact rfl) | (apply W.condF; exact rfl) | (apply W.cond; exact rfl; all_goals intro _) | (apply WO.gtr; exact rfl; exact rfl; all_goals first | (intro _; exfalso; omega) | intro _) | (apply WO.mki; exact rfl; exact rfl; omega) | (apply WO.mkb; exact rfl; exact rfl; omega) | (apply WO.clb; exact rfl; exact rfl; exact rfl; all_goals first | (intro h; exact absurd h (by decide)) | intro _) | (apply WO.cll; exact rfl; exact rfl; exact rfl) | (apply WO.hlv; exact rfl; exact rfl; exact rfl) | (apply WO.hpv; exact rfl; exact rfl; exact rfl) | (apply WO.hnv; exact rfl; exact rfl; exact rfl) | (apply WO.pl; exact rfl; exact rfl) | (apply WO.pp; exact rfl; exact rfl)
  exact ⟨.inr rfl, rfl, _, rfl, rfl, rfl⟩
set_option maxHeartbeats 2000000 in
theorem w49 (C : CRk M) (l : List Mk) {B : Nat} (hs : SortsM M (fnM 115) cmpM B) (hB : l.length ≤ B) (hn : l.length ≤ 256) (he : scan vNone l = 0) : ∃ (k1 : Nat) (hh : Heap), hh.at k1 = some (.cells (ints (l.map (rankM l))) 3) ∧ Run M 49 [.vs (arr cm l) l.length cap] [] ⟨.tup [.sl k1 0 l.length 1 (some l.length), .int .i64 0], hh, []⟩ := by
  obtain ⟨v, hh, ⟨k1, rfl, h2⟩, h3⟩ := run_ofE (M := M) (f := 49) (ars := [.vs (arr cm l) l.length cap]) (P := fun v hh => ∃ k1 : Nat, v = .tup [.sl k1 0 l.length 1 (some l.length), .int .i64 0] ∧ hh.at k1 = some (.cells (ints (l.map (rankM l))) 3)) (by rw [C.pq.ft]; exact ft49) (by simp) (by
    unfold b49
    simp only [List.map_cons, List.map_nil, List.getElem?_cons_zero, List.getElem?_cons_succ, List.getElem?_nil, Option.getD_some, Option.getD_none]
    repeat' first | apply W.seq | apply SQn | apply W.region | apply WO.nil | apply W.block | apply W.ret | apply W.exit | apply W.skip | apply SQr | apply SQe | apply BQn | apply BQr | apply BQe | (apply BQo; exact rfl) | apply LQe | apply LQr | (apply W.condT; exact rfl) | (apply W.condF; exact rfl) | (apply W.cond; exact rfl; all_goals intro _) | (apply WO.lss; exact rfl; exact rfl; all_goals first | (intro _; exfalso; omega) | intro _) | (apply WO.gtr; exact rfl; exact rfl; all_goals first | (intro _; exfalso; omega) | intro _) | (apply WO.neq; exact rfl; exact rfl; all_goals first | (intro _; exfalso; omega) | intro _) | (apply WO.add; exact rfl; exact rfl; omega) | (apply WO.iav; exact rfl; exact rfl; omega) | (apply WO.ias; exact rfl; exact rfl; omega) | (apply WO.mki; exact rfl; exact rfl; omega) | (apply WO.mkb; exact rfl; exact rfl; omega) | (apply WO.lda; exact rfl; exact fun _ => rfl; (first | omega | (simp only [List.length_set]; omega) | (simp; omega)); decide; exact rfl; case ia => infer_instance) | (apply WO.lsa; exact rfl; (first | exact rfl | assumption | exact at_new | (apply at_old; assumption) | (apply at_put; first | assumption | (simp only [put_length]; assumption))); exact fun _ => rfl; (first | omega | (simp only [List.length_set]; omega) | (simp; omega)); decide; exact rfl; case ia => infer_instance) | (apply WO.sta; exact rfl; exact rfl; (first | exact rfl | assumption | exact at_new | (apply at_old; assumption) | (apply at_put; first | assumption | (simp only [put_length]; assumption))); exact fun _ => rfl; (first | omega | (simp only [List.length_set]; omega) | (simp; omega)); exact ⟨rfl, by decide, rfl⟩; exact rfl; case ia => infer_instance) | (apply WO.ldf; exact rfl; exact fun _ => rfl; (first | omega | (simp only [List.length_set]; omega) | (simp; omega)); decide; exact rfl; case ia => infer_instance) | (apply WO.lsf; exact rfl; (first | exact rfl | assumption | exact at_new | (apply at_old; assumption) | (apply at_put; first | assumption | (simp only [put_length]; assumption))); exact fun _ => rfl; (first | omega | (simp only [List.length_set]; omega) | (simp; omega)); decide; exact rfl; case ia => infer_instance) | (apply WO.stf; exact rfl; exact rfl; (first | exact rfl | assumption | exact at_new | (apply at_old; assumption) | (apply at_put; first | assumption | (simp only [put_length]; assumption))); exact fun _ => rfl; (first | omega | (simp only [List.length_set]; omega) | (simp; omega)); exact ⟨rfl, by decide, rfl⟩; exact rfl; case ia => infer_instance) | (apply WO.sneq; exact rfl; exact rfl; all_goals first | (intro h; exact absurd h (by decide)) | (intro h; exact absurd rfl h) | (intro h; contradiction) | intro _) | (apply WO.clb; exact rfl; exact rfl; exact rfl; all_goals first | (intro h; exact absurd h (by decide)) | intro _) | (apply WO.cll; exact rfl; exact rfl; exact rfl) | (apply WO.hlv; exact rfl; exact rfl; exact rfl) | (apply WO.hpv; exact rfl; exact rfl; exact rfl) | (apply WO.hnv; exact rfl; exact rfl; exact rfl) | (apply WO.pl; exact rfl; exact rfl) | (apply WO.pp; exact rfl; exact rfl)
    refine loop49_0 C l (by omega) _ _ _ _ _ _ _ _ l.length 0 vNone _ _ _ _ _ (by omega) rfl (fun _ a4 a5 hp lo wr hpos => ?_) (fun h => absurd he h)
    by_cases hl : l = []
    · subst hl
      have hc1 : ∀ h, M.ext 130 [.vs (arr cm []) 0 cap] h = some ⟨.vs [] 0 none, h, []⟩ := fun h => by rw [C.c130]; exact specClone_nil _ _
      have hc2 := fun h => r131nil C.pq (fnM 115) h
      have h0 : ((([] : List Mk).length : Nat) : Int) = 0 := rfl
      repeat' first | apply W.seq | apply SQn | apply W.region | apply WO.nil | apply W.block | apply W.ret | apply W.exit | apply W.skip | apply SQr | apply SQe | apply BQn | apply BQr | apply BQe | (apply BQo; exact rfl) | apply LQe | apply LQr | (apply W.condT; exact rfl) | (apply W.condF; exact rfl) | (apply W.cond; exact rfl; all_goals intro _) | (apply WO.lss; exact rfl; exact rfl; all_goals first | (intro _; exfalso; omega) | intro _) | (apply WO.gtr; exact rfl; exact rfl; all_goals first | (intro _; exfalso; omega) | intro _) | (apply WO.neq; exact rfl; exact rfl; all_goals first | (intro _; exfalso; omega) | intro _) | (apply WO.add; exact rfl; exact rfl; omega) | (apply WO.cll; exact rfl; exact rfl; first | exact hc1 _) | (apply WO.ct; exact rfl; exact rfl; first | exact hc2 _) | (apply WO.ctn; exact rfl; exact rfl; first | exact hc2 _) | (apply WD.ct; exact rfl; exact rfl; exact rfl; first | exact hc2 _) | (apply WO.iav; exact rfl; exact rfl; omega) | (apply WO.ias; exact rfl; exact rfl; omega) | (apply WO.mki; exact rfl; exact rfl; omega) | (apply WO.mkb; exact rfl; exact rfl; omega) | (apply WO.lda; exact rfl; exact fun _ => rfl; (first | omega | (simp only [List.length_set]; omega) | (simp; omega)); decide; exact rfl; case ia => infer_instance) | (apply WO.lsa; exact rfl; (first | exact rfl | assumption | exact at_new | (apply at_old; assumption) | (apply at_put; first | assumption | (simp only [put_length]; assumption))); exact fun _ => rfl; (first | omega | (simp only [List.length_set]; omega) | (simp; omega)); decide; exact rfl; case ia => infer_instance) | (apply WO.sta; exact rfl; exact rfl; (first | exact rfl | assumption | exact at_new | (apply at_old; assumption) | (apply at_put; first | assumption | (simp only [put_length]; assumption))); exact fun _ => rfl; (first | omega | (simp only [List.length_set]; omega) | (simp; omega)); exact ⟨rfl, by decide, rfl⟩; exact rfl; case ia => infer_instance) | (apply WO.ldf; exact rfl; exact fun _ => rfl; (first | omega | (simp only [List.length_set]; omega) | (simp; omega)); decide; exact rfl; case ia => infer_instance) | (apply WO.lsf; exact rfl; (first | exact rfl | assumption | exact at_new | (apply at_old; assumption) | (apply at_put; first | assumption | (simp only [put_length]; assumption))); exact fun _ => rfl; (first | omega | (simp only [List.length_set]; omega) | (simp; omega)); decide; exact rfl; case ia => infer_instance) | (apply WO.stf; exact rfl; exact rfl; (first | exact rfl | assumption | exact at_new | (apply at_old; assumption) | (apply at_put; first | assumption | (simp only [put_length]; assumption))); exact fun _ => rfl; (first | omega | (simp only [List.length_set]; omega) | (simp; omega)); exact ⟨rfl, by decide, rfl⟩; exact rfl; case ia => infer_instance) | (apply WO.sneq; exact rfl; exact rfl; all_goals first | (intro h; exact absurd h (by decide)) | (intro h; exact absurd rfl h) | (intro h; contradiction) | intro _) | (apply WO.clb; exact rfl; exact rfl; exact rfl; all_goals first | (intro h; exact absurd h (by decide)) | intro _) | (apply WO.cll; exact rfl; exact rfl; exact rfl) | (apply WO.hlv; exact rfl; exact rfl; exact rfl) | (apply WO.hpv; exact rfl; exact rfl; exact rfl) | (apply WO.hnv; exact rfl; exact rfl; exact rfl) | (apply WO.pl; exact rfl; exact rfl) | (apply WO.pp; exact rfl; exact rfl)
      refine W.loop ?_
      unfold b49_1
      repeat' first | apply W.seq | apply SQn | apply W.region | apply WO.nil | apply W.block | apply W.ret | apply W.exit | apply W.skip | apply SQr | apply SQe | apply BQn | apply BQr | apply BQe | (apply BQo; exact rfl) | apply LQe | apply LQr | (apply W.condT; exact rfl) | (apply W.condF; exact rfl) | (apply W.cond; exact rfl; all_goals intro _) | (apply WO.lss; exact rfl; exact rfl; all_goals first | (intro _; exfalso; omega) | intro _) | (apply WO.gtr; exact rfl; exact rfl; all_goals first | (intro _; exfalso; omega) | intro _) | (apply WO.neq; exact rfl; exact rfl; all_goals first | (intro _; exfalso; omega) | intro _) | (apply WO.add; exact rfl; exact rfl; omega) | (apply WO.iav; exact rfl; exact rfl; omega) | (apply WO.ias; exact rfl; exact rfl; omega) | (apply WO.mki; exact rfl; exact rfl; omega) | (apply WO.mkb; exact rfl; exact rfl; omega) | (apply WO.lda; exact rfl; exact fun _ => rfl; (first | omega | (simp only [List.length_set]; omega) | (simp; omega)); decide; exact rfl; case ia => infer_instance) | (apply WO.lsa; exact rfl; (first | exact rfl | assumption | exact at_new | (apply at_old; assumption) | (apply at_put; first | assumption | (simp only [put_length]; assumption))); exact fun _ => rfl; (first | omega | (simp only [List.length_set]; omega) | (simp; omega)); decide; exact rfl; case ia => infer_instance) | (apply WO.sta; exact rfl; exact rfl; (first | exact rfl | assumption | exact at_new | (apply at_old; assumption) | (apply at_put; first | assumption | (simp only [put_length]; assumption))); exact fun _ => rfl; (first | omega | (simp only [List.length_set]; omega) | (simp; omega)); exact ⟨rfl, by decide, rfl⟩; exact rfl; case ia => infer_instance) | (apply WO.ldf; exact rfl; exact fun _ => rfl; (first | omega | (simp only [List.length_set]; omega) | (simp; omega)); decide; exact rfl; case ia => infer_instance) | (apply WO.lsf; exact rfl; (first | exact rfl | assumption | exact at_new | (apply at_old; assumption) | (apply at_put; first | assumption | (simp only [put_length]; assumption))); exact fun _ => rfl; (first | omega | (simp only [List.length_set]; omega) | (simp; omega)); decide; exact rfl; case ia => infer_instance) | (apply WO.stf; exact rfl; exact rfl; (first | exact rfl | assumption | exact at_new | (apply at_old; assumption) | (apply at_put; first | assumption | (simp only [put_length]; assumption))); exact fun _ => rfl; (first | omega | (simp only [List.length_set]; omega) | (simp; omega)); exact ⟨rfl, by decide, rfl⟩; exact rfl; case ia => infer_instance) | (apply WO.sneq; exact rfl; exact rfl; all_goals first | (intro h; exact absurd h (by decide)) | (intro h; exact absurd rfl h) | (intro h; contradiction) | intro _) | (apply WO.clb; exact rfl; exact rfl; exact rfl; all_goals first | (intro h; exact absurd h (by decide)) | intro _) | (apply WO.cll; exact rfl; exact rfl; exact rfl) | (apply WO.hlv; exact rfl; exact rfl; exact rfl) | (apply WO.hpv; exact rfl; exact rfl; exact rfl) | (apply WO.hnv; exact rfl; exact rfl; exact rfl) | (apply WO.pl; exact rfl; exact rfl) | (apply WO.pp; exact rfl; exact rfl)
      refine ⟨.inr rfl, rfl, _, rfl, hp.length, rfl, ?_⟩
      rw [if_neg (by simp [tupA, AV.top, topL])]
      exact at_new
    · have hc1 : ∀ h, M.ext 130 [.vs (arr cm l) l.length cap] h = some ⟨.sl h.length 0 l.length 3 none, h ++ [some (.cells (arr cm l) 49)], []⟩ := fun h => by rw [C.c130]; exact specClone_some hl (by omega) _ _
      have hlp : 0 < l.length := List.length_pos_iff.2 hl
      obtain ⟨O, hO⟩ : ∃ O, O = some (Blk.cells (arr (fun x : Int => [AV.int .i64 x]) (List.replicate ((l.length : Int)).toNat 0)) 3) := ⟨_, rfl⟩
      obtain ⟨S, wr', hw', hP, hS, hc2⟩ := hs ((hp ++ [O]) ++ [some (.cells (arr cm l) 49)]) (hp ++ [O]).length none l (by simp) hB
      rw [show mh ((hp ++ [O]) ++ [some (.cells (arr cm l) 49)]) (hp ++ [O]).length l = (hp ++ [O]) ++ [some (.cells (arr cm l) 49)] from put_self at_new] at hc2
      subst hO
      repeat' first | apply W.seq | apply SQn | apply W.region | apply WO.nil | apply W.block | apply W.ret | apply W.exit | apply W.skip | apply SQr | apply SQe | apply BQn | apply BQr | apply BQe | (apply BQo; exact rfl) | apply LQe | apply LQr | (apply W.condT; exact rfl) | (apply W.condF; exact rfl) | (apply W.cond; exact rfl; all_goals intro _) | (apply WO.lss; exact rfl; exact rfl; all_goals first | (intro _; exfalso; omega) | intro _) | (apply WO.gtr; exact rfl; exact rfl; all_goals first | (intro _; exfalso; omega) | intro _) | (apply WO.neq; exact rfl; exact rfl; all_goals first | (intro _; exfalso; omega) | intro _) | (apply WO.add; exact rfl; exact rfl; omega) | (apply WO.cll; exact rfl; exact rfl; first | exact hc1 _) | (apply WO.ct; exact rfl; exact rfl; first | exact hc2) | (apply WO.ctn; exact rfl; exact rfl; first | exact hc2) | (apply WD.ct; exact rfl; exact rfl; exact rfl; first | exact hc2) | (apply WO.iav; exact rfl; exact rfl; omega) | (apply WO.ias; exact rfl; exact rfl; omega) | (apply WO.mki; exact rfl; exact rfl; omega) | (apply WO.mkb; exact rfl; exact rfl; omega) | (apply WO.lda; exact rfl; exact fun _ => rfl; (first | omega | (simp only [List.length_set]; omega) | (simp; omega)); decide; exact rfl; case ia => infer_instance) | (apply WO.lsa; exact rfl; (first | exact rfl | assumption | exact at_new | (apply at_old; assumption) | (apply at_put; first | assumption | (simp only [put_length]; assumption))); exact fun _ => rfl; (first | omega | (simp only [List.length_set]; omega) | (simp; omega)); decide; exact rfl; case ia => infer_instance) | (apply WO.sta; exact rfl; exact rfl; (first | exact rfl | assumption | exact at_new | (apply at_old; assumption) | (apply at_put; first | assumption | (simp only [put_length]; assumption))); exact fun _ => rfl; (first | omega | (simp only [List.length_set]; omega) | (simp; omega)); exact ⟨rfl, by decide, rfl⟩; exact rfl; case ia => infer_instance) | (apply WO.ldf; exact rfl; exact fun _ => rfl; (first | omega | (simp only [List.length_set]; omega) | (simp; omega)); decide; exact rfl; case ia => infer_instance) | (apply WO.lsf; exact rfl; (first | exact rfl | assumption | exact at_new | (apply at_old; assumption) | (apply at_put; first | assumption | (simp only [put_length]; assumption))); exact fun _ => rfl; (first | omega | (simp only [List.length_set]; omega) | (simp; omega)); decide; exact rfl; case ia => infer_instance) | (apply WO.stf; exact rfl; exact rfl; (first | exact rfl | assumption | exact at_new | (apply at_old; assumption) | (apply at_put; first | assumption | (simp only [put_length]; assumption))); exact fun _ => rfl; (first | omega | (simp only [List.length_set]; omega) | (simp; omega)); exact ⟨rfl, by decide, rfl⟩; exact rfl; case ia => infer_instance) | (apply WO.sneq; exact rfl; exact rfl; all_goals first | (intro h; exact absurd h (by decide)) | (intro h; exact absurd rfl h) | (intro h; contradiction) | intro _) | (apply WO.clb; exact rfl; exact rfl; exact rfl; all_goals first | (intro h; exact absurd h (by decide)) | intro _) | (apply WO.cll; exact rfl; exact rfl; exact rfl) | (apply WO.hlv; exact rfl; exact rfl; exact rfl) | (apply WO.hpv; exact rfl; exact rfl; exact rfl) | (apply WO.hnv; exact rfl; exact rfl; exact rfl) | (apply WO.pl; exact rfl; exact rfl) | (apply WO.pp; exact rfl; exact rfl)
      refine loop49_1 C l S (by omega) hP.length_eq hP hS hp.length (hp ++ [_]).length (by simp) _ _ _ _ _ _ l.length 0 _ _ _ _ _ _ (by omega) ?_ ?_ (fun a8 a9 a10 hp2 lo wr h2 => ?_)
      · have e : ints (List.map (rankM l) (List.take 0 l) ++ List.replicate (l.length - 0) 0) = arr (fun x : Int => [AV.int .i64 x]) (List.replicate ((l.length : Int)).toNat 0) := by simp [ints]
        rw [e]
        exact at_else (by simp) (at_old at_new)
      · exact at_put (by simp)
      · repeat' first | apply W.seq | apply SQn | apply W.region | apply WO.nil | apply W.block | apply W.ret | apply W.exit | apply W.skip | apply SQr | apply SQe | apply BQn | apply BQr | apply BQe | (apply BQo; exact rfl) | apply LQe | apply LQr | (apply W.condT; exact rfl) | (apply W.condF; exact rfl) | (apply W.cond; exact rfl; all_goals intro _) | (apply WO.lss; exact rfl; exact rfl; all_goals first | (intro _; exfalso; omega) | intro _) | (apply WO.gtr; exact rfl; exact rfl; all_goals first | (intro _; exfalso; omega) | intro _) | (apply WO.neq; exact rfl; exact rfl; all_goals first | (intro _; exfalso; omega) | intro _) | (apply WO.add; exact rfl; exact rfl; omega) | (apply WO.iav; exact rfl; exact rfl; omega) | (apply WO.ias; exact rfl; exact rfl; omega) | (apply WO.mki; exact rfl; exact rfl; omega) | (apply WO.mkb; exact rfl; exact rfl; omega) | (apply WO.lda; exact rfl; exact fun _ => rfl; (first | omega | (simp only [List.length_set]; omega) | (simp; omega)); decide; exact rfl; case ia => infer_instance) | (apply WO.lsa; exact rfl; (first | exact rfl | assumption | exact at_new | (apply at_old; assumption) | (apply at_put; first | assumption | (simp only [put_length]; assumption))); exact fun _ => rfl; (first | omega | (simp only [List.length_set]; omega) | (simp; omega)); decide; exact rfl; case ia => infer_instance) | (apply WO.sta; exact rfl; exact rfl; (first | exact rfl | assumption | exact at_new | (apply at_old; assumption) | (apply at_put; first | assumption | (simp only [put_length]; assumption))); exact fun _ => rfl; (first | omega | (simp only [List.length_set]; omega) | (simp; omega)); exact ⟨rfl, by decide, rfl⟩; exact rfl; case ia => infer_instance) | (apply WO.ldf; exact rfl; exact fun _ => rfl; (first | omega | (simp only [List.length_set]; omega) | (simp; omega)); decide; exact rfl; case ia => infer_instance) | (apply WO.lsf; exact rfl; (first | exact rfl | assumption | exact at_new | (apply at_old; assumption) | (apply at_put; first | assumption | (simp only [put_length]; assumption))); exact fun _ => rfl; (first | omega | (simp only [List.length_set]; omega) | (simp; omega)); decide; exact rfl; case ia => infer_instance) | (apply WO.stf; exact rfl; exact rfl; (first | exact rfl | assumption | exact at_new | (apply at_old; assumption) | (apply at_put; first | assumption | (simp only [put_length]; assumption))); exact fun _ => rfl; (first | omega | (simp only [List.length_set]; omega) | (simp; omega)); exact ⟨rfl, by decide, rfl⟩; exact rfl; case ia => infer_instance) | (apply WO.sneq; exact rfl; exact rfl; all_goals first | (intro h; exact absurd h (by decide)) | (intro h; exact absurd rfl h) | (intro h; contradiction) | intro _) | (apply WO.clb; exact rfl; exact rfl; exact rfl; all_goals first | (intro h; exact absurd h (by decide)) | intro _) | (apply WO.cll; exact rfl; exact rfl; exact rfl) | (apply WO.hlv; exact rfl; exact rfl; exact rfl) | (apply WO.hpv; exact rfl; exact rfl; exact rfl) | (apply WO.hnv; exact rfl; exact rfl; exact rfl) | (apply WO.pl; exact rfl; exact rfl) | (apply WO.pp; exact rfl; exact rfl)
        refine ⟨.inr rfl, rfl, _, rfl, hp.length, rfl, ?_⟩
        rw [if_neg (by simp [tupA, AV.top, topL])]
        exact h2)
  exact ⟨k1, hh, h2, h3⟩
end Go.Ab.Ch1


/-
  Own work: the resolved code of some functions of chapter 1: the sort of marks.
-/
namespace Go.Ab.Ch1

end Go.Ab.Ch1


/-
  Own work: stadionlaw01.MarkRanks answers true.
-/
namespace Go.Ab.Ch1
variable {M : Mach}

theorem ranks_at {h : Heap} {b n : Nat} {cap : Option Nat} {l : List Int} {e : TypeId} (hb : h.at b = some (.cells (ints l) e)) (hl : l.length = n) : intsAt h (.sl b 0 n 1 cap) = some l := by
  subst hl
  have e0 : (ints l).length = l.length := (arr_length (f := fun x : Int => [AV.int .i64 x]) (esz := 1) (fun _ => rfl) l).trans (Nat.mul_one _)
  have e1 : cut (ints l) 0 (l.length * 1) = some (ints l) := by
    rw [Nat.mul_one, ← e0]; simp [cut]
  simp only [intsAt, cellsAt, hb, e1, Option.map_some, decInts_ints]
  simp

end Go.Ab.Ch1


/-
  Own work: the contracts of ranks.
-/
namespace Go.Ab.Ch1
open Go.Proofs

theorem cm_top (l : List Mk) : topL (arr cm l) = 0 := topL_arr (fun _ => rfl) l
/-! slices.Clone. -/
theorem wrok_same {h : Heap} {v : AV} : WrOK h ⟨v, h, []⟩ := ⟨Nat.le_refl _, fun _ _ _ => rfl⟩
theorem clone130 : SpecOK Tryz.prog gl 130 specClone := by
  intro xs h r hq
  unfold specClone at hq
  split at hq
  · rename_i cs k cap
    split at hq
    · rename_i hd
      split at hq
      · rename_i hk
        cases hq
        obtain rfl : cs = [] := decMks_eq hd
        subst hk
        refine ent_empty (esz := 3) (J := [some (.cells [] 49)]) (r := .sl (h ++ [none]).length 0 0 3 (some 0)) ?_ (fun n => ?_) (fun ρ w v hv => ?_)
        · exact run_ok seat (T := []) tab_nil (w130nil mach_ft h) wrok_same
        · exact run_ok seat (T := []) tab_nil (w130dead mach_ft h n) ⟨by simp, fun b hb _ => by
            show ((h ++ [none]) ++ [some (Blk.cells [] 49)])[b]? = (h ++ [none])[b]?
            rw [List.getElem?_append_left hb]⟩
        · cases hv with
          | sl h1 h2 h3 h4 => exact .vs _ _ (fun _ => .bool false) (fun h => absurd rfl h) (Nat.zero_le _) (fun n hn => by cases hn) (fun i hi => absurd hi (Nat.not_lt_zero _)) (fun i x hx => by simp at hx)
          | slD c o' h1 h2 h3 => exact .vs _ _ (fun _ => .bool false) (fun h => absurd rfl h) (Nat.zero_le _) (fun n hn => by cases hn) (fun i hi => absurd hi (Nat.not_lt_zero _)) (fun i x hx => by simp at hx)
      · cases hq
    · rename_i l hne hl
      split at hq
      · rename_i hk
        cases hq
        obtain ⟨hk, hn⟩ := hk
        subst hk
        obtain rfl := decMks_eq hl
        have hne' : l ≠ [] := fun h => hne h
        exact ent_run1 seat (T := []) tab_nil (w130 mach_ft l cap hne' hn) (FrL.same (by simp only [topL, AV.top, cm_top]; rfl)) (k := 1) (.sl (i := 0) rfl) rfl (cm_top l) (.inl rfl) (.inl rfl)
      · cases hq
    · cases hq
  · cases hq

/-! mark.Ranks. -/
def TRk : List (Nat × Spec) := [(36, specChk), (114, specDiffer), (97, specWhen), (96, specFirst), (115, specCmp), (130, specClone)]
theorem TRk_ok : ExtOK Tryz.prog gl (extS TRk) := tab_cons chk36 (tab_cons differ114 (tab_cons when97 (tab_cons first96 (tab_cons cmp115 (tab_cons clone130 tab_nil)))))
theorem cpq : CPq (mach Tryz.prog FT TRk) where
  ft := mach_ft
  n131 _ _ := rfl
  n190 _ _ := rfl
  n191 _ _ := rfl
  n231 _ _ := rfl
  n240 _ _ := rfl
theorem two_at {h : Heap} {a b : Int} : intsAt (h ++ [some (.cells [.int .i64 a, .int .i64 b] 25)]) (.sl h.length 0 2 1 (some 2)) = some [a, b] := by
  have e : Heap.at (h ++ [some (.cells [.int .i64 a, .int .i64 b] 25)]) h.length = some (.cells (ints [a, b]) 25) := at_new
  exact ranks_at e rfl
theorem crk : CRk (mach Tryz.prog FT TRk) where
  pq := cpq
  n132 _ _ := rfl
  c36 _ _ := by rw [mach_ext]; rfl
  c114 _ _ _ := by rw [mach_ext]; rfl
  c97 _ _ _ := by rw [mach_ext]; rfl
  c96 a b h := by
    rw [mach_ext]
    show specFirst [.sl h.length 0 2 1 (some 2)] _ = _
    simp only [specFirst, two_at]
    rfl
  c115 x y hp := CT.ext (by rw [mach_ext]; rfl)
  c130 _ _ := by rw [mach_ext]; rfl
def specRanks (B : Nat) : Spec := fun
  | [v], h => match marksAt h v with
    | some l => if l.length < 1000000 then
        if marksE l ≠ 0 then some ⟨.tup [.nilsl, .int .i64 (marksE l)], h, []⟩
        else if l.length ≤ B then some ⟨.tup [.sl h.length 0 l.length 1 (some l.length), .int .i64 0], h ++ [some (.cells (ints (l.map (rankM l))) 3)], []⟩ else none
      else none
    | none => none
  | _, _ => none
theorem ranks49_of {B : Nat} (hB : B ≤ 256) (hs : SortsM (mach Tryz.prog FT TRk) (fnM 115) cmpM B) : SpecOK Tryz.prog gl 49 (specRanks B) := by
  intro xs h r hq
  unfold specRanks at hq
  split at hq
  · split at hq
    · rename_i l hl
      split at hq
      · rename_i hn
        obtain ⟨S, cap, hf⟩ := (marksAt_sl hl).fr (fun _ => rfl)
        split at hq
        · rename_i hE
          cases hq
          by_cases h256 : 256 < l.length
          · have e5 : marksE l = 5 := by rw [marksE, if_pos h256]
            rw [e5]
            exact ent_run0 seat TRk_ok (w49many crk l h256 hn) (.cons hf .nil) rfl (.inr rfl)
          · have es := scan_marksE h256
            rw [← es] at hE ⊢
            exact ent_run0 seat TRk_ok (w49bad crk l (by omega) hE) (.cons hf .nil) rfl (.inr rfl)
        · rename_i hE
          split at hq
          · rename_i h30
            cases hq
            have es := scan_marksE (l := l) (by omega)
            obtain ⟨k1, hh, hat, hr⟩ := w49 (cap := cap) crk l hs (by omega) (by omega) (by rw [es]; exact Decidable.not_not.1 hE)
            refine ent_run1 seat TRk_ok hr (.cons hf .nil) (k := k1) (.tup rfl fun i x y hx hy => ?_) hat (ints_top _) (.inr (novL_ints _)) (.inr rfl)
            match i, hx, hy with
            | 0, hx, hy => cases hx; cases hy; exact .sl (i := 0) rfl
            | 1, hx, hy => cases hx; cases hy; exact .same rfl
          · cases hq
      · cases hq
    · cases hq
  · cases hq

/-! The reference. -/
def specMarksE : Spec := fun
  | [v], h => match marksAt h v with
    | some l => if l.length < 1000000 then some ⟨.int .i64 (marksE l), h, []⟩ else none
    | none => none
  | _, _ => none
def T35 : List (Nat × Spec) := [(35, specChk)]
theorem marks48 : SpecOK Tryz.prog gl 48 specMarksE := by
  intro xs h r hq
  unfold specMarksE at hq
  split at hq
  · split at hq
    · rename_i l hl
      split at hq
      · rename_i hn
        cases hq
        obtain ⟨S, cap, hf⟩ := (marksAt_sl hl).fr (fun _ => rfl)
        exact ent_run0 seat (T := T35) (tab_cons chk35 tab_nil) (w48 mach_ft (fun m h => by rw [mach_ext]; rfl) l cap hn) (.cons hf .nil) rfl (.inr rfl)
      · cases hq
    · cases hq
  · cases hq
end Go.Ab.Ch1


/-
  Own work: stadionlaw01.MarkPreorder answers true.
-/
namespace Go.Ab.Ch1
variable {M : Mach}

/-- Marks of which none has an error, and no two differ in kind. -/
def AllOK (l : List Mk) : Prop := ∀ i j, i < l.length → j < l.length → chkM l[i]! = 0 ∧ differ l[i]!.1 l[j]!.1 = false
theorem allOK_of {l : List Mk} (h : marksE l = 0) : AllOK l := fun i j hi hj => by
  have h256 : ¬ 256 < l.length := fun h' => by rw [marksE, if_pos h'] at h; exact absurd h (by decide)
  rw [marksE, if_neg h256] at h
  have mem : ∀ i, i < l.length → l[i]! ∈ l := fun i hi => by rw [getElem!_pos l i hi]; exact List.getElem_mem hi
  obtain ⟨a1, _, a3⟩ := refScan_ok l [] h _ (mem i hi)
  exact ⟨a1, a3 _ (mem j hj)⟩
theorem refScan_zero : ∀ (l : List Mk) (p : List UInt8), (∀ a ∈ l, chkM a = 0) → (∀ a ∈ l, ∀ b ∈ l, differ a.1 b.1 = false) → (p ≠ [] → p ≠ sNone ∧ ∀ a ∈ l, differ p a.1 = false) → refScan p l = 0
  | [], _, _, _, _ => rfl
  | m :: r, p, h1, h2, h3 => by
    rw [refScan, if_neg (fun h => h (h1 m (by simp)))]
    have g1 : ∀ a ∈ r, chkM a = 0 := fun a ha => h1 a (List.mem_cons_of_mem _ ha)
    have g2 : ∀ a ∈ r, ∀ b ∈ r, differ a.1 b.1 = false := fun a ha b hb => h2 a (List.mem_cons_of_mem _ ha) b (List.mem_cons_of_mem _ hb)
    split
    · exact refScan_zero r p g1 g2 (fun hp => ⟨(h3 hp).1, fun a ha => (h3 hp).2 a (List.mem_cons_of_mem _ ha)⟩)
    · rename_i hk
      rw [if_neg]
      · exact refScan_zero r m.1 g1 g2 (fun _ => ⟨hk, fun a ha => h2 m (by simp) a (List.mem_cons_of_mem _ ha)⟩)
      · rintro ⟨hp, hne⟩
        obtain ⟨q1, q2⟩ := h3 hp
        exact of_decide_eq_false (q2 m (by simp)) ⟨hne, q1, hk⟩
theorem marksE_perm {l m : List Mk} (h : marksE l = 0) (hp : m.Perm l) : marksE m = 0 := by
  have h256 : ¬ 256 < l.length := fun h' => by rw [marksE, if_pos h'] at h; exact absurd h (by decide)
  rw [marksE, if_neg h256] at h
  rw [marksE, if_neg (by rw [hp.length_eq]; exact h256)]
  refine refScan_zero m [] (fun a ha => (refScan_ok l [] h a (hp.mem_iff.1 ha)).1) (fun a ha b hb => (refScan_ok l [] h a (hp.mem_iff.1 ha)).2.2 b (hp.mem_iff.1 hb)) (fun h => absurd rfl h)
theorem rank_perm {l m : List Mk} (hp : m.Perm l) (x : Mk) : rankM m x = rankM l x := by
  unfold rankM; rw [hp.countP_eq]

/-- What MarkPreorder calls. -/
structure Calls13 (M : Mach) : Prop where
  c18 : ∀ h, M.ext 18 [] h = some ⟨.bool true, h, []⟩
  c20 : ∀ (key n : Int) h, M.ext 20 [.int .i64 key, .int .i64 n] h = some ⟨.int .i64 (if key < 1 ∨ 2147483646 < key ∨ n < 0 ∨ 256 < n then 3 else 0), h, []⟩
  c22 : ∀ (key : Int) (n : Nat) h, 1 ≤ key → key ≤ 2147483646 → n ≤ 256 → M.ext 22 [.int .i64 key, .int .i64 n] h = some ⟨.sl h.length 0 n 1 (some n), h ++ [some (.cells (ints (shuf (n - 1) key (upto n))) 3)], []⟩
  c37 : ∀ a b h, chkM a = 0 → chkM b = 0 → differ a.1 b.1 = false → M.ext 37 [am a, am b] h = some ⟨.tup [.int .i64 (cmpM a b), .int .i64 0], h, []⟩
  c48 : ∀ l cap h, l.length < 1000000 → M.ext 48 [.vs (arr cm l) l.length cap] h = some ⟨.int .i64 (marksE l), h, []⟩
  c49 : ∀ v l h, marksAt h v = some l → l.length ≤ 12 → marksE l = 0 → M.ext 49 [v] h = some ⟨.tup [.sl h.length 0 l.length 1 (some l.length), .int .i64 0], h ++ [some (.cells (ints (l.map (rankM l))) 3)], []⟩

theorem worth_none {a : Mk} (h : a.1 = sNone) : worthM a = -864000000 := by
  unfold worthM; rw [h]; rfl
theorem worth_some {a : Mk} (h : chkM a = 0) (hk : a.1 ≠ sNone) : -864000000 < worthM a := by
  unfold worthM
  rcases chk_zero h with ⟨h1, _⟩ | ⟨_, h1 | h1 | h1, _, h3, h4⟩
  · exact absurd h1 hk
  · rw [h1] at h3 h4 ⊢
    have h3 : 1 ≤ a.2.1 := h3
    have h4 : a.2.1 ≤ 863999999 := h4
    rw [worth_time (by omega) h4]; omega
  · rw [h1] at h3 ⊢
    have h3 : 0 ≤ a.2.1 := h3
    show -864000000 < a.2.1
    omega
  · rw [h1] at h3 ⊢
    have h3 : 0 ≤ a.2.1 := h3
    show -864000000 < a.2.1
    omega
theorem cmp_fact {a b : Mk} : (cmpM a b = -1 ∧ worthM b < worthM a) ∨ (cmpM a b = 1 ∧ worthM a < worthM b) ∨ (cmpM a b = 0 ∧ worthM a = worthM b) := by
  unfold cmpM cmpW
  split
  · exact .inl ⟨rfl, by assumption⟩
  · split
    · exact .inr (.inl ⟨rfl, by assumption⟩)
    · exact .inr (.inr ⟨rfl, by omega⟩)

theorem loop13_2 (C : Calls13 M) (l : List Mk) (hn : l.length ≤ 12) (hok : AllOK l) (k1 i j : Nat) (hi : i < l.length) (hj : j < l.length) (cij : Int) (hcij : cij = cmpM l[i]! l[j]!) (hp : Heap) (a1 a4 a5 a6 a7 a8 a9 a10 a11 a13 a16 a17 a18 a24 a25 a26 a27 a28 a29 a30 a31 a32 a33 : AV) (wr : List Nat) {Q : Ex → StW → Prop} : ∀ (r x : Nat) (a19 a20 a21 a22 a23 : AV) (lo : List (Nat × AV)), x + r = l.length →
    (∀ z19 z20 z21 z22 z23 lo, Q (.exit 8) ⟨⟨[.vs (arr cm l) l.length none, a1, .bool false, .sl k1 0 l.length 1 (some l.length), a4, a5, a6, a7, a8, a9, a10, a11, .int .i64 i, a13, .int .i64 j, .int .i64 cij, a16, a17, a18, z19, z20, z21, z22, z23, a24, a25, a26, a27, a28, a29, a30, a31, a32, a33, .int .i64 l.length, .int .i64 l.length], lo, hp, []⟩, wr⟩) →
    W M (.loop b13_2) ⟨⟨[.vs (arr cm l) l.length none, a1, .bool false, .sl k1 0 l.length 1 (some l.length), a4, a5, a6, a7, a8, a9, a10, a11, .int .i64 i, a13, .int .i64 j, .int .i64 cij, a16, a17, a18, a19, a20, a21, a22, a23, a24, a25, a26, a27, a28, a29, a30, a31, a32, a33, .int .i64 l.length, .int .i64 x], lo, hp, []⟩, wr⟩ Q := by
  intro r
  induction r with
  | zero =>
    intro x a19 a20 a21 a22 a23 lo hx hQ
    obtain rfl : x = l.length := by omega
    refine W.loop ?_
    unfold b13_2
    repeat' first | apply W.seq | apply SQn | apply W.region | apply WO.nil | apply W.block | apply W.ret | apply W.exit | apply W.skip | apply SQr | apply SQe | apply BQn | apply BQr | apply BQe | (apply BQo; exact rfl) | apply LQe | apply LQr | (apply W.drawro; exact rfl) | apply W.draw | apply WD.nil | (apply WD.gT; exact rfl) | (apply WD.gF; exact rfl) | (apply WD.sT; exact rfl) | (apply WD.sF; exact rfl) | (apply WD.sU; exact rfl) | (apply WD.pure1; exact rfl) | (apply WD.load1; exact rfl; exact rfl; exact rfl) | (apply WD.clb; exact rfl; exact rfl; exact rfl; exact rfl; all_goals first | (intro h; exact absurd h (by decide)) | intro _) | (apply WD.cl0; exact rfl; exact rfl; exact rfl; exact rfl) | (apply WD.cl1; exact rfl; exact rfl; exact rfl; exact rfl) | (apply W.condT; exact rfl) | (apply W.condF; exact rfl) | (apply W.cond; exact rfl; all_goals intro _) | (apply WO.gT; exact rfl) | (apply WO.gF; exact rfl) | (apply WO.sT; exact rfl) | (apply WO.sF; exact rfl) | (apply WO.sU; exact rfl) | (apply WO.lss; exact rfl; exact rfl; all_goals first | (intro _; exfalso; omega) | intro _) | (apply WO.leq; exact rfl; exact rfl; all_goals first | (intro _; exfalso; omega) | intro _) | (apply WO.gtr; exact rfl; exact rfl; all_goals first | (intro _; exfalso; omega) | intro _) | (apply WO.neq; exact rfl; exact rfl; all_goals first | (intro _; exfalso; omega) | intro _) | (apply WO.pkT; exact rfl; exact rfl) | (apply WO.pkF; exact rfl; exact rfl) | (apply WO.add; exact rfl; exact rfl; omega) | (apply WO.iav; exact rfl; exact rfl; omega) | (apply WO.ias; exact rfl; exact rfl; omega) | (apply WO.lda; exact rfl; exact fun _ => rfl; (first | omega | (simp only [List.length_set]; omega) | (simp; omega)); decide; exact rfl; case ia => infer_instance) | (apply WO.lsa; exact rfl; (first | exact rfl | assumption | exact at_new | (apply at_old; assumption) | (apply at_put; first | assumption | (simp only [put_length]; assumption))); exact fun _ => rfl; (first | omega | (simp only [List.length_set]; omega) | (simp; omega)); decide; exact rfl; case ia => infer_instance) | (apply WO.sneq; exact rfl; exact rfl; all_goals first | (intro h; exact absurd h (by decide)) | (intro h; exact absurd rfl h) | (intro h; contradiction) | intro _) | (apply WO.clb; exact rfl; exact rfl; exact rfl; all_goals first | (intro h; exact absurd h (by decide)) | intro _) | (apply WO.cll; exact rfl; exact rfl; exact rfl) | (apply WO.hlv; exact rfl; exact rfl; exact rfl) | (apply WO.hpv; exact rfl; exact rfl; exact rfl) | (apply WO.hnv; exact rfl; exact rfl; exact rfl) | (apply WO.pl; exact rfl; exact rfl) | (apply WO.pp; exact rfl; exact rfl)
    exact hQ _ _ _ _ _ _
  | succ r ih =>
    intro x a19 a20 a21 a22 a23 lo hx hQ
    have fi : ((i : Int)).toNat = i := by omega
    have fj : ((j : Int)).toNat = j := by omega
    have fx : ((x : Int)).toNat = x := by omega
    have q1 : ∀ h, M.ext 37 [am l[((j : Int)).toNat]!, am l[((x : Int)).toNat]!] h = some ⟨.tup [.int .i64 (cmpM l[j]! l[x]!), .int .i64 0], h, []⟩ := fun h => by
      rw [fj, fx]; exact C.c37 _ _ h (hok j j hj hj).1 (hok x x (by omega) (by omega)).1 (hok j x hj (by omega)).2
    have q2 : ∀ h, M.ext 37 [am l[((i : Int)).toNat]!, am l[((x : Int)).toNat]!] h = some ⟨.tup [.int .i64 (cmpM l[i]! l[x]!), .int .i64 0], h, []⟩ := fun h => by
      rw [fi, fx]; exact C.c37 _ _ h (hok i i hi hi).1 (hok x x (by omega) (by omega)).1 (hok i x hi (by omega)).2
    have g1 := cmp_fact (a := l[i]!) (b := l[j]!)
    have g2 := cmp_fact (a := l[j]!) (b := l[x]!)
    have g3 := cmp_fact (a := l[i]!) (b := l[x]!)
    rw [← hcij] at g1
    generalize cmpM l[j]! l[x]! = cjx at *
    generalize cmpM l[i]! l[x]! = cix at *
    refine W.loop ?_
    unfold b13_2
    repeat' first | apply W.seq | apply SQn | apply W.region | apply WO.nil | apply W.block | apply W.ret | apply W.exit | apply W.skip | apply SQr | apply SQe | apply BQn | apply BQr | apply BQe | (apply BQo; exact rfl) | apply LQe | apply LQr | (apply W.drawro; exact rfl) | apply W.draw | apply WD.nil | (apply WD.gT; exact rfl) | (apply WD.gF; exact rfl) | (apply WD.sT; exact rfl) | (apply WD.sF; exact rfl) | (apply WD.sU; exact rfl) | (apply WD.pure1; exact rfl) | (apply WD.load1; exact rfl; exact rfl; exact rfl) | (apply WD.clb; exact rfl; exact rfl; exact rfl; exact rfl; all_goals first | (intro h; exact absurd h (by decide)) | intro _) | (apply WD.cl0; exact rfl; exact rfl; exact rfl; exact rfl) | (apply WD.cl1; exact rfl; exact rfl; exact rfl; exact rfl) | (apply W.condT; exact rfl) | (apply W.condF; exact rfl) | (apply W.cond; exact rfl; all_goals intro _) | (apply WO.gT; exact rfl) | (apply WO.gF; exact rfl) | (apply WO.sT; exact rfl) | (apply WO.sF; exact rfl) | (apply WO.sU; exact rfl) | (apply WO.lss; exact rfl; exact rfl; all_goals first | (intro _; exfalso; omega) | intro _) | (apply WO.leq; exact rfl; exact rfl; all_goals first | (intro _; exfalso; omega) | intro _) | (apply WO.gtr; exact rfl; exact rfl; all_goals first | (intro _; exfalso; omega) | intro _) | (apply WO.neq; exact rfl; exact rfl; all_goals first | (intro _; exfalso; omega) | intro _) | (apply WO.pkT; exact rfl; exact rfl) | (apply WO.pkF; exact rfl; exact rfl) | (apply WO.add; exact rfl; exact rfl; omega) | (apply WO.cll; exact rfl; exact rfl; first | exact q1 _ | exact q2 _) | (apply WD.cl0; exact rfl; exact rfl; exact rfl; first | exact q1 _ | exact q2 _) | (apply WO.iav; exact rfl; exact rfl; omega) | (apply WO.ias; exact rfl; exact rfl; omega) | (apply WO.lda; exact rfl; exact fun _ => rfl; (first | omega | (simp only [List.length_set]; omega) | (simp; omega)); decide; exact rfl; case ia => infer_instance) | (apply WO.lsa; exact rfl; (first | exact rfl | assumption | exact at_new | (apply at_old; assumption) | (apply at_put; first | assumption | (simp only [put_length]; assumption))); exact fun _ => rfl; (first | omega | (simp only [List.length_set]; omega) | (simp; omega)); decide; exact rfl; case ia => infer_instance) | (apply WO.sneq; exact rfl; exact rfl; all_goals first | (intro h; exact absurd h (by decide)) | (intro h; exact absurd rfl h) | (intro h; contradiction) | intro _) | (apply WO.clb; exact rfl; exact rfl; exact rfl; all_goals first | (intro h; exact absurd h (by decide)) | intro _) | (apply WO.cll; exact rfl; exact rfl; exact rfl) | (apply WO.hlv; exact rfl; exact rfl; exact rfl) | (apply WO.hpv; exact rfl; exact rfl; exact rfl) | (apply WO.hnv; exact rfl; exact rfl; exact rfl) | (apply WO.pl; exact rfl; exact rfl) | (apply WO.pp; exact rfl; exact rfl)
    all_goals exact LQn (ih (x + 1) _ _ _ _ _ _ (by omega) hQ)

theorem count_lt {P R : Mk → Bool} : ∀ {l : List Mk}, (∀ x ∈ l, P x = true → R x = true) → ∀ a ∈ l, P a = false → R a = true → l.countP P < l.countP R
  | [], _, a, ha, _, _ => by cases ha
  | m :: r, h, a, ha, h1, h2 => by
    have hmono : r.countP P ≤ r.countP R := List.countP_mono_left fun x hx => h x (List.mem_cons_of_mem _ hx)
    rw [List.countP_cons, List.countP_cons]
    rcases List.mem_cons.1 ha with rfl | ha
    · rw [h1, h2]; simp; omega
    · have ih := count_lt (fun x hx => h x (List.mem_cons_of_mem _ hx)) a ha h1 h2
      have hm := h m (by simp)
      cases hP : P m <;> cases hR : R m <;> simp_all <;> omega
theorem rank_lt {l : List Mk} {a b : Mk} (ha : a ∈ l) (ka : a.1 ≠ sNone) (kb : b.1 ≠ sNone) : cmpM a b < 0 ↔ rankM l a < rankM l b := by
  unfold rankM
  rw [if_neg ka, if_neg kb]
  constructor
  · intro h
    have h' := (cmpM_lt a b).1 h
    have := count_lt (l := l) (P := fun x => decide (cmpM x a < 0)) (R := fun x => decide (cmpM x b < 0)) (fun x _ hx => by
      have hx := of_decide_eq_true hx
      rw [cmpM_lt] at hx
      exact decide_eq_true ((cmpM_lt _ _).2 (by omega))) a ha (decide_eq_false (by rw [cmpM_lt]; omega)) (decide_eq_true h)
    omega
  · intro h
    refine Decidable.byContradiction fun hn => ?_
    rw [cmpM_lt] at hn
    have : l.countP (fun x => decide (cmpM x b < 0)) ≤ l.countP (fun x => decide (cmpM x a < 0)) := List.countP_mono_left fun x _ hx => by
      have hx := of_decide_eq_true hx
      rw [cmpM_lt] at hx
      exact decide_eq_true ((cmpM_lt _ _).2 (by omega))
    omega

set_option maxHeartbeats 4000000 in
theorem loop13_3 (C : Calls13 M) (l : List Mk) (hn : l.length ≤ 12) (hok : AllOK l) (k1 i : Nat) (hi : i < l.length) (hp : Heap) (hat : hp.at k1 = some (.cells (ints (l.map (rankM l))) 3)) (a1 a4 a5 a6 a7 a8 a9 a10 a11 a24 a25 a26 a27 a28 a29 a30 a31 : AV) (wr : List Nat) {Q : Ex → StW → Prop} : ∀ (r j : Nat) (a14 a15 a16 a17 a18 a19 a20 a21 a22 a23 a34 a35 : AV) (lo : List (Nat × AV)), j + r = l.length →
    (∀ z14 z15 z16 z17 z18 z19 z20 z21 z22 z23 z34 z35 lo, Q (.exit 6) ⟨⟨[.vs (arr cm l) l.length none, a1, .bool false, .sl k1 0 l.length 1 (some l.length), a4, a5, a6, a7, a8, a9, a10, a11, .int .i64 i, .int .i64 (l.countP fun x => decide (cmpM x l[i]! < 0) : Nat), z14, z15, z16, z17, z18, z19, z20, z21, z22, z23, a24, a25, a26, a27, a28, a29, a30, a31, .int .i64 l.length, .int .i64 l.length, z34, z35], lo, hp, []⟩, wr⟩) →
    W M (.loop b13_3) ⟨⟨[.vs (arr cm l) l.length none, a1, .bool false, .sl k1 0 l.length 1 (some l.length), a4, a5, a6, a7, a8, a9, a10, a11, .int .i64 i, .int .i64 ((l.take j).countP fun x => decide (cmpM x l[i]! < 0) : Nat), a14, a15, a16, a17, a18, a19, a20, a21, a22, a23, a24, a25, a26, a27, a28, a29, a30, a31, .int .i64 l.length, .int .i64 j, a34, a35], lo, hp, []⟩, wr⟩ Q := by
  intro r
  induction r with
  | zero =>
    intro j a14 a15 a16 a17 a18 a19 a20 a21 a22 a23 a34 a35 lo hj hQ
    obtain rfl : j = l.length := by omega
    rw [List.take_length]
    refine W.loop ?_
    unfold b13_3
    repeat' first | apply W.seq | apply SQn | apply W.region | apply WO.nil | apply W.block | apply W.ret | apply W.exit | apply W.skip | apply SQr | apply SQe | apply BQn | apply BQr | apply BQe | (apply BQo; exact rfl) | apply LQe | apply LQr | (apply W.drawro; exact rfl) | apply W.draw | apply WD.nil | (apply WD.gT; exact rfl) | (apply WD.gF; exact rfl) | (apply WD.sT; exact rfl) | (apply WD.sF; exact rfl) | (apply WD.sU; exact rfl) | (apply WD.pure1; exact rfl) | (apply WD.load1; exact rfl; exact rfl; exact rfl) | (apply WD.clb; exact rfl; exact rfl; exact rfl; exact rfl; all_goals first | (intro h; exact absurd h (by decide)) | intro _) | (apply WD.cl0; exact rfl; exact rfl; exact rfl; exact rfl) | (apply WD.cl1; exact rfl; exact rfl; exact rfl; exact rfl) | (apply W.condT; exact rfl) | (apply W.condF; exact rfl) | (apply W.cond; exact rfl; all_goals intro _) | (apply WO.gT; exact rfl) | (apply WO.gF; exact rfl) | (apply WO.sT; exact rfl) | (apply WO.sF; exact rfl) | (apply WO.sU; exact rfl) | (apply WO.lss; exact rfl; exact rfl; all_goals first | (intro _; exfalso; omega) | intro _) | (apply WO.gtr; exact rfl; exact rfl; all_goals first | (intro _; exfalso; omega) | intro _) | (apply WO.eql; exact rfl; exact rfl; all_goals first | (intro _; exfalso; omega) | intro _) | (apply WO.neq; exact rfl; exact rfl; all_goals first | (intro _; exfalso; omega) | intro _) | (apply WO.pkT; exact rfl; exact rfl) | (apply WO.pkF; exact rfl; exact rfl) | (apply WO.add; exact rfl; exact rfl; omega) | (apply WO.iav; exact rfl; exact rfl; omega) | (apply WO.ias; exact rfl; exact rfl; omega) | (apply WO.lda; exact rfl; exact fun _ => rfl; (first | omega | (simp only [List.length_set]; omega) | (simp; omega)); decide; exact rfl; case ia => infer_instance) | (apply WO.lsa; exact rfl; (first | exact rfl | assumption | exact at_new | (apply at_old; assumption) | (apply at_put; first | assumption | (simp only [put_length]; assumption))); exact fun _ => rfl; (first | omega | (simp only [List.length_set]; omega) | (simp; omega)); decide; exact rfl; case ia => infer_instance) | (apply WO.ldf; exact rfl; exact fun _ => rfl; (first | omega | (simp only [List.length_set]; omega) | (simp; omega)); decide; exact rfl; case ia => infer_instance) | (apply WO.lsf; exact rfl; (first | exact rfl | assumption | exact at_new | (apply at_old; assumption) | (apply at_put; first | assumption | (simp only [put_length]; assumption))); exact fun _ => rfl; (first | omega | (simp only [List.length_set]; omega) | (simp; omega)); decide; exact rfl; case ia => infer_instance) | (apply WO.seql; exact rfl; exact rfl; all_goals first | (intro h; exact absurd h (by decide)) | (intro h; exact absurd rfl h) | (intro h; contradiction) | intro _) | (apply WO.sneq; exact rfl; exact rfl; all_goals first | (intro h; exact absurd h (by decide)) | (intro h; exact absurd rfl h) | (intro h; contradiction) | intro _) | (apply WO.clb; exact rfl; exact rfl; exact rfl; all_goals first | (intro h; exact absurd h (by decide)) | intro _) | (apply WO.cll; exact rfl; exact rfl; exact rfl) | (apply WO.neg; exact rfl; omega) | (apply WO.hlv; exact rfl; exact rfl; exact rfl) | (apply WO.hpv; exact rfl; exact rfl; exact rfl) | (apply WO.hnv; exact rfl; exact rfl; exact rfl) | (apply WO.pl; exact rfl; exact rfl) | (apply WO.pp; exact rfl; exact rfl)
    exact hQ _ _ _ _ _ _ _ _ _ _ _ _ _
  | succ r ih =>
    intro j a14 a15 a16 a17 a18 a19 a20 a21 a22 a23 a34 a35 lo hj hQ
    have fi : ((i : Int)).toNat = i := by omega
    have fj : ((j : Int)).toNat = j := by omega
    have hjl : j < l.length := by omega
    have q1 : ∀ h, M.ext 37 [am l[((i : Int)).toNat]!, am l[((j : Int)).toNat]!] h = some ⟨.tup [.int .i64 (cmpM l[i]! l[j]!), .int .i64 0], h, []⟩ := fun h => by
      rw [fi, fj]; exact C.c37 _ _ h (hok i i hi hi).1 (hok j j hjl hjl).1 (hok i j hi hjl).2
    have q2 : ∀ h, M.ext 37 [am l[((j : Int)).toNat]!, am l[((i : Int)).toNat]!] h = some ⟨.tup [.int .i64 (cmpM l[j]! l[i]!), .int .i64 0], h, []⟩ := fun h => by
      rw [fi, fj]; exact C.c37 _ _ h (hok j j hjl hjl).1 (hok i i hi hi).1 (hok j i hjl hi).2
    have g1 := cmp_fact (a := l[i]!) (b := l[j]!)
    have g2 := cmp_fact (a := l[j]!) (b := l[i]!)
    have hle : (l.take j).countP (fun x => decide (cmpM x l[i]! < 0)) ≤ l.length := Nat.le_trans List.countP_le_length (by simp; omega)
    have hct := count_take (l := l) (P := fun x => decide (cmpM x l[i]! < 0)) (k := j) hjl
    have hlen : (l.map (rankM l)).length = l.length := by simp
    have rg : ∀ x, x < l.length → (l.map (rankM l))[x]! = rankM l l[x]! := fun x hx => by
      rw [getElem!_pos _ x (by simpa using hx), getElem!_pos l x hx]; simp
    have ki : (l.map (rankM l))[((i : Int)).toNat]! = rankM l l[i]! := by rw [fi]; exact rg i hi
    have kj : (l.map (rankM l))[((j : Int)).toNat]! = rankM l l[j]! := by rw [fj]; exact rg j hjl
    have mi : l[i]! ∈ l := by rw [getElem!_pos l i hi]; exact List.getElem_mem hi
    have hrk := rank_lt (l := l) (a := l[i]!) (b := l[j]!) mi
    have hnone : l[i]!.1 ≠ sNone → l[j]!.1 = sNone → cmpM l[i]! l[j]! = -1 := fun h1 h2 => by
      have w1 := worth_some (hok i i hi hi).1 h1
      have w2 := worth_none (a := l[j]!) h2
      omega
    obtain ⟨cij, hcij⟩ : ∃ z, z = cmpM l[i]! l[j]! := ⟨_, rfl⟩
    obtain ⟨cji, hcji⟩ : ∃ z, z = cmpM l[j]! l[i]! := ⟨_, rfl⟩
    rw [← hcij] at q1 g1 hrk hnone
    rw [← hcji] at q2 g2
    simp only [← hcji] at hct
    refine W.loop ?_
    have hct1 : cji < 0 → (l.take (j + 1)).countP (fun x => decide (cmpM x l[i]! < 0)) = (l.take j).countP (fun x => decide (cmpM x l[i]! < 0)) + 1 := fun h => by rw [hct, if_pos (decide_eq_true h)]
    have hct0 : ¬ cji < 0 → (l.take (j + 1)).countP (fun x => decide (cmpM x l[i]! < 0)) = (l.take j).countP (fun x => decide (cmpM x l[i]! < 0)) := fun h => by rw [hct, if_neg (by simpa using h)]; rfl
    by_cases hneg : cji < 0
    · have ih' := fun b14 b15 b16 b17 b18 b19 b20 b21 b22 b23 b34 b35 lo => ih (j + 1) b14 b15 b16 b17 b18 b19 b20 b21 b22 b23 b34 b35 lo (by omega) hQ
      simp only [hct1 hneg] at ih'
      by_cases hi0 : l[((i : Int)).toNat]!.1 = sNone
      · by_cases hj0 : l[((j : Int)).toNat]!.1 = sNone
        · have hj1 : l[j]!.1 = sNone := by rw [← fj]; exact hj0
          unfold b13_3
          repeat' first | (refine loop13_2 C l hn hok k1 i j hi hjl cij hcij hp _ _ _ _ _ _ _ _ _ _ _ _ _ _ _ _ _ _ _ _ _ _ _ _ l.length 0 _ _ _ _ _ _ (by omega) (fun z19 z20 z21 z22 z23 lo => ?_)) | apply W.seq | apply SQn | apply W.region | apply WO.nil | apply W.block | apply W.ret | apply W.exit | apply W.skip | apply SQr | apply SQe | apply BQn | apply BQr | apply BQe | (apply BQo; exact rfl) | apply LQe | apply LQr | (apply W.drawro; exact rfl) | apply W.draw | apply WD.nil | (apply WD.gT; exact rfl) | (apply WD.gF; exact rfl) | (apply WD.sT; exact rfl) | (apply WD.sF; exact rfl) | (apply WD.sU; exact rfl) | (apply WD.pure1; exact rfl) | (apply WD.load1; exact rfl; exact rfl; exact rfl) | (apply WD.clb; exact rfl; exact rfl; exact rfl; exact rfl; all_goals first | (intro h; exact absurd h (by decide)) | intro _) | (apply WD.cl0; exact rfl; exact rfl; exact rfl; exact rfl) | (apply WD.cl1; exact rfl; exact rfl; exact rfl; exact rfl) | (apply W.condT; exact rfl) | (apply W.condF; exact rfl) | (apply W.cond; exact rfl; all_goals intro _) | (apply WO.gT; exact rfl) | (apply WO.gF; exact rfl) | (apply WO.sT; exact rfl) | (apply WO.sF; exact rfl) | (apply WO.sU; exact rfl) | (apply WO.lss; exact rfl; exact rfl; all_goals first | (intro _; exfalso; omega) | intro _) | (apply WO.gtr; exact rfl; exact rfl; all_goals first | (intro _; exfalso; omega) | intro _) | (apply WO.eql; exact rfl; exact rfl; all_goals first | (intro _; exfalso; omega) | intro _) | (apply WO.neq; exact rfl; exact rfl; all_goals first | (intro _; exfalso; omega) | intro _) | (apply WO.pkT; exact rfl; exact rfl) | (apply WO.pkF; exact rfl; exact rfl) | (apply WO.add; exact rfl; exact rfl; omega) | (apply WO.cll; exact rfl; exact rfl; first | exact q1 _ | exact q2 _) | (apply WD.cl0; exact rfl; exact rfl; exact rfl; first | exact q1 _ | exact q2 _) | (apply WO.iav; exact rfl; exact rfl; omega) | (apply WO.ias; exact rfl; exact rfl; omega) | (apply WO.lda; exact rfl; exact fun _ => rfl; (first | omega | (simp only [List.length_set]; omega) | (simp; omega)); decide; exact rfl; case ia => infer_instance) | (apply WO.lsa; exact rfl; (first | exact rfl | assumption | exact at_new | (apply at_old; assumption) | (apply at_put; first | assumption | (simp only [put_length]; assumption))); exact fun _ => rfl; (first | omega | (simp only [List.length_set]; omega) | (simp; omega)); decide; exact rfl; case ia => infer_instance) | (apply WO.ldf; exact rfl; exact fun _ => rfl; (first | omega | (simp only [List.length_set]; omega) | (simp; omega)); decide; exact rfl; case ia => infer_instance) | (apply WO.lsf; exact rfl; (first | exact rfl | assumption | exact at_new | (apply at_old; assumption) | (apply at_put; first | assumption | (simp only [put_length]; assumption))); exact fun _ => rfl; (first | omega | (simp only [List.length_set]; omega) | (simp; omega)); decide; exact rfl; case ia => infer_instance) | (apply WO.seql; exact rfl; exact rfl; all_goals first | (intro h; exact absurd h (by decide)) | (intro h; exact absurd rfl h) | (intro h; contradiction) | intro _) | (apply WO.sneq; exact rfl; exact rfl; all_goals first | (intro h; exact absurd h (by decide)) | (intro h; exact absurd rfl h) | (intro h; contradiction) | intro _) | (apply WO.clb; exact rfl; exact rfl; exact rfl; all_goals first | (intro h; exact absurd h (by decide)) | intro _) | (apply WO.cll; exact rfl; exact rfl; exact rfl) | (apply WO.neg; exact rfl; omega) | (apply WO.hlv; exact rfl; exact rfl; exact rfl) | (apply WO.hpv; exact rfl; exact rfl; exact rfl) | (apply WO.hnv; exact rfl; exact rfl; exact rfl) | (apply WO.pl; exact rfl; exact rfl) | (apply WO.pp; exact rfl; exact rfl)
          all_goals exact LQn (ih' _ _ _ _ _ _ _ _ _ _ _ _ _)
        · have hj1 : l[j]!.1 ≠ sNone := by rw [← fj]; exact hj0
          unfold b13_3
          repeat' first | (refine loop13_2 C l hn hok k1 i j hi hjl cij hcij hp _ _ _ _ _ _ _ _ _ _ _ _ _ _ _ _ _ _ _ _ _ _ _ _ l.length 0 _ _ _ _ _ _ (by omega) (fun z19 z20 z21 z22 z23 lo => ?_)) | apply W.seq | apply SQn | apply W.region | apply WO.nil | apply W.block | apply W.ret | apply W.exit | apply W.skip | apply SQr | apply SQe | apply BQn | apply BQr | apply BQe | (apply BQo; exact rfl) | apply LQe | apply LQr | (apply W.drawro; exact rfl) | apply W.draw | apply WD.nil | (apply WD.gT; exact rfl) | (apply WD.gF; exact rfl) | (apply WD.sT; exact rfl) | (apply WD.sF; exact rfl) | (apply WD.sU; exact rfl) | (apply WD.pure1; exact rfl) | (apply WD.load1; exact rfl; exact rfl; exact rfl) | (apply WD.clb; exact rfl; exact rfl; exact rfl; exact rfl; all_goals first | (intro h; exact absurd h (by decide)) | intro _) | (apply WD.cl0; exact rfl; exact rfl; exact rfl; exact rfl) | (apply WD.cl1; exact rfl; exact rfl; exact rfl; exact rfl) | (apply W.condT; exact rfl) | (apply W.condF; exact rfl) | (apply W.cond; exact rfl; all_goals intro _) | (apply WO.gT; exact rfl) | (apply WO.gF; exact rfl) | (apply WO.sT; exact rfl) | (apply WO.sF; exact rfl) | (apply WO.sU; exact rfl) | (apply WO.lss; exact rfl; exact rfl; all_goals first | (intro _; exfalso; omega) | intro _) | (apply WO.gtr; exact rfl; exact rfl; all_goals first | (intro _; exfalso; omega) | intro _) | (apply WO.eql; exact rfl; exact rfl; all_goals first | (intro _; exfalso; omega) | intro _) | (apply WO.neq; exact rfl; exact rfl; all_goals first | (intro _; exfalso; omega) | intro _) | (apply WO.pkT; exact rfl; exact rfl) | (apply WO.pkF; exact rfl; exact rfl) | (apply WO.add; exact rfl; exact rfl; omega) | (apply WO.cll; exact rfl; exact rfl; first | exact q1 _ | exact q2 _) | (apply WD.cl0; exact rfl; exact rfl; exact rfl; first | exact q1 _ | exact q2 _) | (apply WO.iav; exact rfl; exact rfl; omega) | (apply WO.ias; exact rfl; exact rfl; omega) | (apply WO.lda; exact rfl; exact fun _ => rfl; (first | omega | (simp only [List.length_set]; omega) | (simp; omega)); decide; exact rfl; case ia => infer_instance) | (apply WO.lsa; exact rfl; (first | exact rfl | assumption | exact at_new | (apply at_old; assumption) | (apply at_put; first | assumption | (simp only [put_length]; assumption))); exact fun _ => rfl; (first | omega | (simp only [List.length_set]; omega) | (simp; omega)); decide; exact rfl; case ia => infer_instance) | (apply WO.ldf; exact rfl; exact fun _ => rfl; (first | omega | (simp only [List.length_set]; omega) | (simp; omega)); decide; exact rfl; case ia => infer_instance) | (apply WO.lsf; exact rfl; (first | exact rfl | assumption | exact at_new | (apply at_old; assumption) | (apply at_put; first | assumption | (simp only [put_length]; assumption))); exact fun _ => rfl; (first | omega | (simp only [List.length_set]; omega) | (simp; omega)); decide; exact rfl; case ia => infer_instance) | (apply WO.seql; exact rfl; exact rfl; all_goals first | (intro h; exact absurd h (by decide)) | (intro h; exact absurd rfl h) | (intro h; contradiction) | intro _) | (apply WO.sneq; exact rfl; exact rfl; all_goals first | (intro h; exact absurd h (by decide)) | (intro h; exact absurd rfl h) | (intro h; contradiction) | intro _) | (apply WO.clb; exact rfl; exact rfl; exact rfl; all_goals first | (intro h; exact absurd h (by decide)) | intro _) | (apply WO.cll; exact rfl; exact rfl; exact rfl) | (apply WO.neg; exact rfl; omega) | (apply WO.hlv; exact rfl; exact rfl; exact rfl) | (apply WO.hpv; exact rfl; exact rfl; exact rfl) | (apply WO.hnv; exact rfl; exact rfl; exact rfl) | (apply WO.pl; exact rfl; exact rfl) | (apply WO.pp; exact rfl; exact rfl)
          all_goals exact LQn (ih' _ _ _ _ _ _ _ _ _ _ _ _ _)
      · by_cases hj0 : l[((j : Int)).toNat]!.1 = sNone
        · have hi1 : l[i]!.1 ≠ sNone := by rw [← fi]; exact hi0
          have hj1 : l[j]!.1 = sNone := by rw [← fj]; exact hj0
          have hR := hnone hi1 hj1
          unfold b13_3
          repeat' first | (refine loop13_2 C l hn hok k1 i j hi hjl cij hcij hp _ _ _ _ _ _ _ _ _ _ _ _ _ _ _ _ _ _ _ _ _ _ _ _ l.length 0 _ _ _ _ _ _ (by omega) (fun z19 z20 z21 z22 z23 lo => ?_)) | apply W.seq | apply SQn | apply W.region | apply WO.nil | apply W.block | apply W.ret | apply W.exit | apply W.skip | apply SQr | apply SQe | apply BQn | apply BQr | apply BQe | (apply BQo; exact rfl) | apply LQe | apply LQr | (apply W.drawro; exact rfl) | apply W.draw | apply WD.nil | (apply WD.gT; exact rfl) | (apply WD.gF; exact rfl) | (apply WD.sT; exact rfl) | (apply WD.sF; exact rfl) | (apply WD.sU; exact rfl) | (apply WD.pure1; exact rfl) | (apply WD.load1; exact rfl; exact rfl; exact rfl) | (apply WD.clb; exact rfl; exact rfl; exact rfl; exact rfl; all_goals first | (intro h; exact absurd h (by decide)) | intro _) | (apply WD.cl0; exact rfl; exact rfl; exact rfl; exact rfl) | (apply WD.cl1; exact rfl; exact rfl; exact rfl; exact rfl) | (apply W.condT; exact rfl) | (apply W.condF; exact rfl) | (apply W.cond; exact rfl; all_goals intro _) | (apply WO.gT; exact rfl) | (apply WO.gF; exact rfl) | (apply WO.sT; exact rfl) | (apply WO.sF; exact rfl) | (apply WO.sU; exact rfl) | (apply WO.lss; exact rfl; exact rfl; all_goals first | (intro _; exfalso; omega) | intro _) | (apply WO.gtr; exact rfl; exact rfl; all_goals first | (intro _; exfalso; omega) | intro _) | (apply WO.eql; exact rfl; exact rfl; all_goals first | (intro _; exfalso; omega) | intro _) | (apply WO.neq; exact rfl; exact rfl; all_goals first | (intro _; exfalso; omega) | intro _) | (apply WO.pkT; exact rfl; exact rfl) | (apply WO.pkF; exact rfl; exact rfl) | (apply WO.add; exact rfl; exact rfl; omega) | (apply WO.cll; exact rfl; exact rfl; first | exact q1 _ | exact q2 _) | (apply WD.cl0; exact rfl; exact rfl; exact rfl; first | exact q1 _ | exact q2 _) | (apply WO.iav; exact rfl; exact rfl; omega) | (apply WO.ias; exact rfl; exact rfl; omega) | (apply WO.lda; exact rfl; exact fun _ => rfl; (first | omega | (simp only [List.length_set]; omega) | (simp; omega)); decide; exact rfl; case ia => infer_instance) | (apply WO.lsa; exact rfl; (first | exact rfl | assumption | exact at_new | (apply at_old; assumption) | (apply at_put; first | assumption | (simp only [put_length]; assumption))); exact fun _ => rfl; (first | omega | (simp only [List.length_set]; omega) | (simp; omega)); decide; exact rfl; case ia => infer_instance) | (apply WO.ldf; exact rfl; exact fun _ => rfl; (first | omega | (simp only [List.length_set]; omega) | (simp; omega)); decide; exact rfl; case ia => infer_instance) | (apply WO.lsf; exact rfl; (first | exact rfl | assumption | exact at_new | (apply at_old; assumption) | (apply at_put; first | assumption | (simp only [put_length]; assumption))); exact fun _ => rfl; (first | omega | (simp only [List.length_set]; omega) | (simp; omega)); decide; exact rfl; case ia => infer_instance) | (apply WO.seql; exact rfl; exact rfl; all_goals first | (intro h; exact absurd h (by decide)) | (intro h; exact absurd rfl h) | (intro h; contradiction) | intro _) | (apply WO.sneq; exact rfl; exact rfl; all_goals first | (intro h; exact absurd h (by decide)) | (intro h; exact absurd rfl h) | (intro h; contradiction) | intro _) | (apply WO.clb; exact rfl; exact rfl; exact rfl; all_goals first | (intro h; exact absurd h (by decide)) | intro _) | (apply WO.cll; exact rfl; exact rfl; exact rfl) | (apply WO.neg; exact rfl; omega) | (apply WO.hlv; exact rfl; exact rfl; exact rfl) | (apply WO.hpv; exact rfl; exact rfl; exact rfl) | (apply WO.hnv; exact rfl; exact rfl; exact rfl) | (apply WO.pl; exact rfl; exact rfl) | (apply WO.pp; exact rfl; exact rfl)
          all_goals exact LQn (ih' _ _ _ _ _ _ _ _ _ _ _ _ _)
        · have hi1 : l[i]!.1 ≠ sNone := by rw [← fi]; exact hi0
          have hj1 : l[j]!.1 ≠ sNone := by rw [← fj]; exact hj0
          have hR := hrk hi1 hj1
          unfold b13_3
          repeat' first | (refine loop13_2 C l hn hok k1 i j hi hjl cij hcij hp _ _ _ _ _ _ _ _ _ _ _ _ _ _ _ _ _ _ _ _ _ _ _ _ l.length 0 _ _ _ _ _ _ (by omega) (fun z19 z20 z21 z22 z23 lo => ?_)) | apply W.seq | apply SQn | apply W.region | apply WO.nil | apply W.block | apply W.ret | apply W.exit | apply W.skip | apply SQr | apply SQe | apply BQn | apply BQr | apply BQe | (apply BQo; exact rfl) | apply LQe | apply LQr | (apply W.drawro; exact rfl) | apply W.draw | apply WD.nil | (apply WD.gT; exact rfl) | (apply WD.gF; exact rfl) | (apply WD.sT; exact rfl) | (apply WD.sF; exact rfl) | (apply WD.sU; exact rfl) | (apply WD.pure1; exact rfl) | (apply WD.load1; exact rfl; exact rfl; exact rfl) | (apply WD.clb; exact rfl; exact rfl; exact rfl; exact rfl; all_goals first | (intro h; exact absurd h (by decide)) | intro _) | (apply WD.cl0; exact rfl; exact rfl; exact rfl; exact rfl) | (apply WD.cl1; exact rfl; exact rfl; exact rfl; exact rfl) | (apply W.condT; exact rfl) | (apply W.condF; exact rfl) | (apply W.cond; exact rfl; all_goals intro _) | (apply WO.gT; exact rfl) | (apply WO.gF; exact rfl) | (apply WO.sT; exact rfl) | (apply WO.sF; exact rfl) | (apply WO.sU; exact rfl) | (apply WO.lss; exact rfl; exact rfl; all_goals first | (intro _; exfalso; omega) | intro _) | (apply WO.gtr; exact rfl; exact rfl; all_goals first | (intro _; exfalso; omega) | intro _) | (apply WO.eql; exact rfl; exact rfl; all_goals first | (intro _; exfalso; omega) | intro _) | (apply WO.neq; exact rfl; exact rfl; all_goals first | (intro _; exfalso; omega) | intro _) | (apply WO.pkT; exact rfl; exact rfl) | (apply WO.pkF; exact rfl; exact rfl) | (apply WO.add; exact rfl; exact rfl; omega) | (apply WO.cll; exact rfl; exact rfl; first | exact q1 _ | exact q2 _) | (apply WD.cl0; exact rfl; exact rfl; exact rfl; first | exact q1 _ | exact q2 _) | (apply WO.iav; exact rfl; exact rfl; omega) | (apply WO.ias; exact rfl; exact rfl; omega) | (apply WO.lda; exact rfl; exact fun _ => rfl; (first | omega | (simp only [List.length_set]; omega) | (simp; omega)); decide; exact rfl; case ia => infer_instance) | (apply WO.lsa; exact rfl; (first | exact rfl | assumption | exact at_new | (apply at_old; assumption) | (apply at_put; first | assumption | (simp only [put_length]; assumption))); exact fun _ => rfl; (first | omega | (simp only [List.length_set]; omega) | (simp; omega)); decide; exact rfl; case ia => infer_instance) | (apply WO.ldf; exact rfl; exact fun _ => rfl; (first | omega | (simp only [List.length_set]; omega) | (simp; omega)); decide; exact rfl; case ia => infer_instance) | (apply WO.lsf; exact rfl; (first | exact rfl | assumption | exact at_new | (apply at_old; assumption) | (apply at_put; first | assumption | (simp only [put_length]; assumption))); exact fun _ => rfl; (first | omega | (simp only [List.length_set]; omega) | (simp; omega)); decide; exact rfl; case ia => infer_instance) | (apply WO.seql; exact rfl; exact rfl; all_goals first | (intro h; exact absurd h (by decide)) | (intro h; exact absurd rfl h) | (intro h; contradiction) | intro _) | (apply WO.sneq; exact rfl; exact rfl; all_goals first | (intro h; exact absurd h (by decide)) | (intro h; exact absurd rfl h) | (intro h; contradiction) | intro _) | (apply WO.clb; exact rfl; exact rfl; exact rfl; all_goals first | (intro h; exact absurd h (by decide)) | intro _) | (apply WO.cll; exact rfl; exact rfl; exact rfl) | (apply WO.neg; exact rfl; omega) | (apply WO.hlv; exact rfl; exact rfl; exact rfl) | (apply WO.hpv; exact rfl; exact rfl; exact rfl) | (apply WO.hnv; exact rfl; exact rfl; exact rfl) | (apply WO.pl; exact rfl; exact rfl) | (apply WO.pp; exact rfl; exact rfl)
          all_goals exact LQn (ih' _ _ _ _ _ _ _ _ _ _ _ _ _)
    · have ih' := fun b14 b15 b16 b17 b18 b19 b20 b21 b22 b23 b34 b35 lo => ih (j + 1) b14 b15 b16 b17 b18 b19 b20 b21 b22 b23 b34 b35 lo (by omega) hQ
      simp only [hct0 hneg] at ih'
      by_cases hi0 : l[((i : Int)).toNat]!.1 = sNone
      · by_cases hj0 : l[((j : Int)).toNat]!.1 = sNone
        · have hj1 : l[j]!.1 = sNone := by rw [← fj]; exact hj0
          unfold b13_3
          repeat' first | (refine loop13_2 C l hn hok k1 i j hi hjl cij hcij hp _ _ _ _ _ _ _ _ _ _ _ _ _ _ _ _ _ _ _ _ _ _ _ _ l.length 0 _ _ _ _ _ _ (by omega) (fun z19 z20 z21 z22 z23 lo => ?_)) | apply W.seq | apply SQn | apply W.region | apply WO.nil | apply W.block | apply W.ret | apply W.exit | apply W.skip | apply SQr | apply SQe | apply BQn | apply BQr | apply BQe | (apply BQo; exact rfl) | apply LQe | apply LQr | (apply W.drawro; exact rfl) | apply W.draw | apply WD.nil | (apply WD.gT; exact rfl) | (apply WD.gF; exact rfl) | (apply WD.sT; exact rfl) | (apply WD.sF; exact rfl) | (apply WD.sU; exact rfl) | (apply WD.pure1; exact rfl) | (apply WD.load1; exact rfl; exact rfl; exact rfl) | (apply WD.clb; exact rfl; exact rfl; exact rfl; exact rfl; all_goals first | (intro h; exact absurd h (by decide)) | intro _) | (apply WD.cl0; exact rfl; exact rfl; exact rfl; exact rfl) | (apply WD.cl1; exact rfl; exact rfl; exact rfl; exact rfl) | (apply W.condT; exact rfl) | (apply W.condF; exact rfl) | (apply W.cond; exact rfl; all_goals intro _) | (apply WO.gT; exact rfl) | (apply WO.gF; exact rfl) | (apply WO.sT; exact rfl) | (apply WO.sF; exact rfl) | (apply WO.sU; exact rfl) | (apply WO.lss; exact rfl; exact rfl; all_goals first | (intro _; exfalso; omega) | intro _) | (apply WO.gtr; exact rfl; exact rfl; all_goals first | (intro _; exfalso; omega) | intro _) | (apply WO.eql; exact rfl; exact rfl; all_goals first | (intro _; exfalso; omega) | intro _) | (apply WO.neq; exact rfl; exact rfl; all_goals first | (intro _; exfalso; omega) | intro _) | (apply WO.pkT; exact rfl; exact rfl) | (apply WO.pkF; exact rfl; exact rfl) | (apply WO.add; exact rfl; exact rfl; omega) | (apply WO.cll; exact rfl; exact rfl; first | exact q1 _ | exact q2 _) | (apply WD.cl0; exact rfl; exact rfl; exact rfl; first | exact q1 _ | exact q2 _) | (apply WO.iav; exact rfl; exact rfl; omega) | (apply WO.ias; exact rfl; exact rfl; omega) | (apply WO.lda; exact rfl; exact fun _ => rfl; (first | omega | (simp only [List.length_set]; omega) | (simp; omega)); decide; exact rfl; case ia => infer_instance) | (apply WO.lsa; exact rfl; (first | exact rfl | assumption | exact at_new | (apply at_old; assumption) | (apply at_put; first | assumption | (simp only [put_length]; assumption))); exact fun _ => rfl; (first | omega | (simp only [List.length_set]; omega) | (simp; omega)); decide; exact rfl; case ia => infer_instance) | (apply WO.ldf; exact rfl; exact fun _ => rfl; (first | omega | (simp only [List.length_set]; omega) | (simp; omega)); decide; exact rfl; case ia => infer_instance) | (apply WO.lsf; exact rfl; (first | exact rfl | assumption | exact at_new | (apply at_old; assumption) | (apply at_put; first | assumption | (simp only [put_length]; assumption))); exact fun _ => rfl; (first | omega | (simp only [List.length_set]; omega) | (simp; omega)); decide; exact rfl; case ia => infer_instance) | (apply WO.seql; exact rfl; exact rfl; all_goals first | (intro h; exact absurd h (by decide)) | (intro h; exact absurd rfl h) | (intro h; contradiction) | intro _) | (apply WO.sneq; exact rfl; exact rfl; all_goals first | (intro h; exact absurd h (by decide)) | (intro h; exact absurd rfl h) | (intro h; contradiction) | intro _) | (apply WO.clb; exact rfl; exact rfl; exact rfl; all_goals first | (intro h; exact absurd h (by decide)) | intro _) | (apply WO.cll; exact rfl; exact rfl; exact rfl) | (apply WO.neg; exact rfl; omega) | (apply WO.hlv; exact rfl; exact rfl; exact rfl) | (apply WO.hpv; exact rfl; exact rfl; exact rfl) | (apply WO.hnv; exact rfl; exact rfl; exact rfl) | (apply WO.pl; exact rfl; exact rfl) | (apply WO.pp; exact rfl; exact rfl)
          all_goals exact LQn (ih' _ _ _ _ _ _ _ _ _ _ _ _ _)
        · have hj1 : l[j]!.1 ≠ sNone := by rw [← fj]; exact hj0
          unfold b13_3
          repeat' first | (refine loop13_2 C l hn hok k1 i j hi hjl cij hcij hp _ _ _ _ _ _ _ _ _ _ _ _ _ _ _ _ _ _ _ _ _ _ _ _ l.length 0 _ _ _ _ _ _ (by omega) (fun z19 z20 z21 z22 z23 lo => ?_)) | apply W.seq | apply SQn | apply W.region | apply WO.nil | apply W.block | apply W.ret | apply W.exit | apply W.skip | apply SQr | apply SQe | apply BQn | apply BQr | apply BQe | (apply BQo; exact rfl) | apply LQe | apply LQr | (apply W.drawro; exact rfl) | apply W.draw | apply WD.nil | (apply WD.gT; exact rfl) | (apply WD.gF; exact rfl) | (apply WD.sT; exact rfl) | (apply WD.sF; exact rfl) | (apply WD.sU; exact rfl) | (apply WD.pure1; exact rfl) | (apply WD.load1; exact rfl; exact rfl; exact rfl) | (apply WD.clb; exact rfl; exact rfl; exact rfl; exact rfl; all_goals first | (intro h; exact absurd h (by decide)) | intro _) | (apply WD.cl0; exact rfl; exact rfl; exact rfl; exact rfl) | (apply WD.cl1; exact rfl; exact rfl; exact rfl; exact rfl) | (apply W.condT; exact rfl) | (apply W.condF; exact rfl) | (apply W.cond; exact rfl; all_goals intro _) | (apply WO.gT; exact rfl) | (apply WO.gF; exact rfl) | (apply WO.sT; exact rfl) | (apply WO.sF; exact rfl) | (apply WO.sU; exact rfl) | (apply WO.lss; exact rfl; exact rfl; all_goals first | (intro _; exfalso; omega) | intro _) | (apply WO.gtr; exact rfl; exact rfl; all_goals first | (intro _; exfalso; omega) | intro _) | (apply WO.eql; exact rfl; exact rfl; all_goals first | (intro _; exfalso; omega) | intro _) | (apply WO.neq; exact rfl; exact rfl; all_goals first | (intro _; exfalso; omega) | intro _) | (apply WO.pkT; exact rfl; exact rfl) | (apply WO.pkF; exact rfl; exact rfl) | (apply WO.add; exact rfl; exact rfl; omega) | (apply WO.cll; exact rfl; exact rfl; first | exact q1 _ | exact q2 _) | (apply WD.cl0; exact rfl; exact rfl; exact rfl; first | exact q1 _ | exact q2 _) | (apply WO.iav; exact rfl; exact rfl; omega) | (apply WO.ias; exact rfl; exact rfl; omega) | (apply WO.lda; exact rfl; exact fun _ => rfl; (first | omega | (simp only [List.length_set]; omega) | (simp; omega)); decide; exact rfl; case ia => infer_instance) | (apply WO.lsa; exact rfl; (first | exact rfl | assumption | exact at_new | (apply at_old; assumption) | (apply at_put; first | assumption | (simp only [put_length]; assumption))); exact fun _ => rfl; (first | omega | (simp only [List.length_set]; omega) | (simp; omega)); decide; exact rfl; case ia => infer_instance) | (apply WO.ldf; exact rfl; exact fun _ => rfl; (first | omega | (simp only [List.length_set]; omega) | (simp; omega)); decide; exact rfl; case ia => infer_instance) | (apply WO.lsf; exact rfl; (first | exact rfl | assumption | exact at_new | (apply at_old; assumption) | (apply at_put; first | assumption | (simp only [put_length]; assumption))); exact fun _ => rfl; (first | omega | (simp only [List.length_set]; omega) | (simp; omega)); decide; exact rfl; case ia => infer_instance) | (apply WO.seql; exact rfl; exact rfl; all_goals first | (intro h; exact absurd h (by decide)) | (intro h; exact absurd rfl h) | (intro h; contradiction) | intro _) | (apply WO.sneq; exact rfl; exact rfl; all_goals first | (intro h; exact absurd h (by decide)) | (intro h; exact absurd rfl h) | (intro h; contradiction) | intro _) | (apply WO.clb; exact rfl; exact rfl; exact rfl; all_goals first | (intro h; exact absurd h (by decide)) | intro _) | (apply WO.cll; exact rfl; exact rfl; exact rfl) | (apply WO.neg; exact rfl; omega) | (apply WO.hlv; exact rfl; exact rfl; exact rfl) | (apply WO.hpv; exact rfl; exact rfl; exact rfl) | (apply WO.hnv; exact rfl; exact rfl; exact rfl) | (apply WO.pl; exact rfl; exact rfl) | (apply WO.pp; exact rfl; exact rfl)
          all_goals exact LQn (ih' _ _ _ _ _ _ _ _ _ _ _ _ _)
      · by_cases hj0 : l[((j : Int)).toNat]!.1 = sNone
        · have hi1 : l[i]!.1 ≠ sNone := by rw [← fi]; exact hi0
          have hj1 : l[j]!.1 = sNone := by rw [← fj]; exact hj0
          have hR := hnone hi1 hj1
          unfold b13_3
          repeat' first | (refine loop13_2 C l hn hok k1 i j hi hjl cij hcij hp _ _ _ _ _ _ _ _ _ _ _ _ _ _ _ _ _ _ _ _ _ _ _ _ l.length 0 _ _ _ _ _ _ (by omega) (fun z19 z20 z21 z22 z23 lo => ?_)) | apply W.seq | apply SQn | apply W.region | apply WO.nil | apply W.block | apply W.ret | apply W.exit | apply W.skip | apply SQr | apply SQe | apply BQn | apply BQr | apply BQe | (apply BQo; exact rfl) | apply LQe | apply LQr | (apply W.drawro; exact rfl) | apply W.draw | apply WD.nil | (apply WD.gT; exact rfl) | (apply WD.gF; exact rfl) | (apply WD.sT; exact rfl) | (apply WD.sF; exact rfl) | (apply WD.sU; exact rfl) | (apply WD.pure1; exact rfl) | (apply WD.load1; exact rfl; exact rfl; exact rfl) | (apply WD.clb; exact rfl; exact rfl; exact rfl; exact rfl; all_goals first | (intro h; exact absurd h (by decide)) | intro _) | (apply WD.cl0; exact rfl; exact rfl; exact rfl; exact rfl) | (apply WD.cl1; exact rfl; exact rfl; exact rfl; exact rfl) | (apply W.condT; exact rfl) | (apply W.condF; exact rfl) | (apply W.cond; exact rfl; all_goals intro _) | (apply WO.gT; exact rfl) | (apply WO.gF; exact rfl) | (apply WO.sT; exact rfl) | (apply WO.sF; exact rfl) | (apply WO.sU; exact rfl) | (apply WO.lss; exact rfl; exact rfl; all_goals first | (intro _; exfalso; omega) | intro _) | (apply WO.gtr; exact rfl; exact rfl; all_goals first | (intro _; exfalso; omega) | intro _) | (apply WO.eql; exact rfl; exact rfl; all_goals first | (intro _; exfalso; omega) | intro _) | (apply WO.neq; exact rfl; exact rfl; all_goals first | (intro _; exfalso; omega) | intro _) | (apply WO.pkT; exact rfl; exact rfl) | (apply WO.pkF; exact rfl; exact rfl) | (apply WO.add; exact rfl; exact rfl; omega) | (apply WO.cll; exact rfl; exact rfl; first | exact q1 _ | exact q2 _) | (apply WD.cl0; exact rfl; exact rfl; exact rfl; first | exact q1 _ | exact q2 _) | (apply WO.iav; exact rfl; exact rfl; omega) | (apply WO.ias; exact rfl; exact rfl; omega) | (apply WO.lda; exact rfl; exact fun _ => rfl; (first | omega | (simp only [List.length_set]; omega) | (simp; omega)); decide; exact rfl; case ia => infer_instance) | (apply WO.lsa; exact rfl; (first | exact rfl | assumption | exact at_new | (apply at_old; assumption) | (apply at_put; first | assumption | (simp only [put_length]; assumption))); exact fun _ => rfl; (first | omega | (simp only [List.length_set]; omega) | (simp; omega)); decide; exact rfl; case ia => infer_instance) | (apply WO.ldf; exact rfl; exact fun _ => rfl; (first | omega | (simp only [List.length_set]; omega) | (simp; omega)); decide; exact rfl; case ia => infer_instance) | (apply WO.lsf; exact rfl; (first | exact rfl | assumption | exact at_new | (apply at_old; assumption) | (apply at_put; first | assumption | (simp only [put_length]; assumption))); exact fun _ => rfl; (first | omega | (simp only [List.length_set]; omega) | (simp; omega)); decide; exact rfl; case ia => infer_instance) | (apply WO.seql; exact rfl; exact rfl; all_goals first | (intro h; exact absurd h (by decide)) | (intro h; exact absurd rfl h) | (intro h; contradiction) | intro _) | (apply WO.sneq; exact rfl; exact rfl; all_goals first | (intro h; exact absurd h (by decide)) | (intro h; exact absurd rfl h) | (intro h; contradiction) | intro _) | (apply WO.clb; exact rfl; exact rfl; exact rfl; all_goals first | (intro h; exact absurd h (by decide)) | intro _) | (apply WO.cll; exact rfl; exact rfl; exact rfl) | (apply WO.neg; exact rfl; omega) | (apply WO.hlv; exact rfl; exact rfl; exact rfl) | (apply WO.hpv; exact rfl; exact rfl; exact rfl) | (apply WO.hnv; exact rfl; exact rfl; exact rfl) | (apply WO.pl; exact rfl; exact rfl) | (apply WO.pp; exact rfl; exact rfl)
          all_goals exact LQn (ih' _ _ _ _ _ _ _ _ _ _ _ _ _)
        · have hi1 : l[i]!.1 ≠ sNone := by rw [← fi]; exact hi0
          have hj1 : l[j]!.1 ≠ sNone := by rw [← fj]; exact hj0
          have hR := hrk hi1 hj1
          unfold b13_3
          repeat' first | (refine loop13_2 C l hn hok k1 i j hi hjl cij hcij hp _ _ _ _ _ _ _ _ _ _ _ _ _ _ _ _ _ _ _ _ _ _ _ _ l.length 0 _ _ _ _ _ _ (by omega) (fun z19 z20 z21 z22 z23 lo => ?_)) | apply W.seq | apply SQn | apply W.region | apply WO.nil | apply W.block | apply W.ret | apply W.exit | apply W.skip | apply SQr | apply SQe | apply BQn | apply BQr | apply BQe | (apply BQo; exact rfl) | apply LQe | apply LQr | (apply W.drawro; exact rfl) | apply W.draw | apply WD.nil | (apply WD.gT; exact rfl) | (apply WD.gF; exact rfl) | (apply WD.sT; exact rfl) | (apply WD.sF; exact rfl) | (apply WD.sU; exact rfl) | (apply WD.pure1; exact rfl) | (apply WD.load1; exact rfl; exact rfl; exact rfl) | (apply WD.clb; exact rfl; exact rfl; exact rfl; exact rfl; all_goals first | (intro h; exact absurd h (by decide)) | intro _) | (apply WD.cl0; exact rfl; exact rfl; exact rfl; exact rfl) | (apply WD.cl1; exact rfl; exact rfl; exact rfl; exact rfl) | (apply W.condT; exact rfl) | (apply W.condF; exact rfl) | (apply W.cond; exact rfl; all_goals intro _) | (apply WO.gT; exact rfl) | (apply WO.gF; exact rfl) | (apply WO.sT; exact rfl) | (apply WO.sF; exact rfl) | (apply WO.sU; exact rfl) | (apply WO.lss; exact rfl; exact rfl; all_goals first | (intro _; exfalso; omega) | intro _) | (apply WO.gtr; exact rfl; exact rfl; all_goals first | (intro _; exfalso; omega) | intro _) | (apply WO.eql; exact rfl; exact rfl; all_goals first | (intro _; exfalso; omega) | intro _) | (apply WO.neq; exact rfl; exact rfl; all_goals first | (intro _; exfalso; omega) | intro _) | (apply WO.pkT; exact rfl; exact rfl) | (apply WO.pkF; exact rfl; exact rfl) | (apply WO.add; exact rfl; exact rfl; omega) | (apply WO.cll; exact rfl; exact rfl; first | exact q1 _ | exact q2 _) | (apply WD.cl0; exact rfl; exact rfl; exact rfl; first | exact q1 _ | exact q2 _) | (apply WO.iav; exact rfl; exact rfl; omega) | (apply WO.ias; exact rfl; exact rfl; omega) | (apply WO.lda; exact rfl; exact fun _ => rfl; (first | omega | (simp only [List.length_set]; omega) | (simp; omega)); decide; exact rfl; case ia => infer_instance) | (apply WO.lsa; exact rfl; (first | exact rfl | assumption | exact at_new | (apply at_old; assumption) | (apply at_put; first | assumption | (simp only [put_length]; assumption))); exact fun _ => rfl; (first | omega | (simp only [List.length_set]; omega) | (simp; omega)); decide; exact rfl; case ia => infer_instance) | (apply WO.ldf; exact rfl; exact fun _ => rfl; (first | omega | (simp only [List.length_set]; omega) | (simp; omega)); decide; exact rfl; case ia => infer_instance) | (apply WO.lsf; exact rfl; (first | exact rfl | assumption | exact at_new | (apply at_old; assumption) | (apply at_put; first | assumption | (simp only [put_length]; assumption))); exact fun _ => rfl; (first | omega | (simp only [List.length_set]; omega) | (simp; omega)); decide; exact rfl; case ia => infer_instance) | (apply WO.seql; exact rfl; exact rfl; all_goals first | (intro h; exact absurd h (by decide)) | (intro h; exact absurd rfl h) | (intro h; contradiction) | intro _) | (apply WO.sneq; exact rfl; exact rfl; all_goals first | (intro h; exact absurd h (by decide)) | (intro h; exact absurd rfl h) | (intro h; contradiction) | intro _) | (apply WO.clb; exact rfl; exact rfl; exact rfl; all_goals first | (intro h; exact absurd h (by decide)) | intro _) | (apply WO.cll; exact rfl; exact rfl; exact rfl) | (apply WO.neg; exact rfl; omega) | (apply WO.hlv; exact rfl; exact rfl; exact rfl) | (apply WO.hpv; exact rfl; exact rfl; exact rfl) | (apply WO.hnv; exact rfl; exact rfl; exact rfl) | (apply WO.pl; exact rfl; exact rfl) | (apply WO.pp; exact rfl; exact rfl)
          all_goals exact LQn (ih' _ _ _ _ _ _ _ _ _ _ _ _ _)

set_option maxHeartbeats 2000000 in
theorem loop13_4 (C : Calls13 M) (l : List Mk) (hn : l.length ≤ 12) (hok : AllOK l) (k1 : Nat) (hp : Heap) (hat : hp.at k1 = some (.cells (ints (l.map (rankM l))) 3)) (a1 a4 a5 a6 a7 a8 a9 a10 a11 a24 a25 a26 a27 a28 a29 : AV) (wr : List Nat) {Q : Ex → StW → Prop} : ∀ (r i : Nat) (a12 a13 a14 a15 a16 a17 a18 a19 a20 a21 a22 a23 a32 a33 a34 a35 : AV) (lo : List (Nat × AV)), i + r = l.length →
    (∀ z12 z13 z14 z15 z16 z17 z18 z19 z20 z21 z22 z23 z32 z33 z34 z35 lo, Q (.exit 4) ⟨⟨[.vs (arr cm l) l.length none, a1, .bool false, .sl k1 0 l.length 1 (some l.length), a4, a5, a6, a7, a8, a9, a10, a11, z12, z13, z14, z15, z16, z17, z18, z19, z20, z21, z22, z23, a24, a25, a26, a27, a28, a29, .int .i64 l.length, .int .i64 l.length, z32, z33, z34, z35], lo, hp, []⟩, wr⟩) →
    W M (.loop b13_4) ⟨⟨[.vs (arr cm l) l.length none, a1, .bool false, .sl k1 0 l.length 1 (some l.length), a4, a5, a6, a7, a8, a9, a10, a11, a12, a13, a14, a15, a16, a17, a18, a19, a20, a21, a22, a23, a24, a25, a26, a27, a28, a29, .int .i64 l.length, .int .i64 i, a32, a33, a34, a35], lo, hp, []⟩, wr⟩ Q := by
  intro r
  induction r with
  | zero =>
    intro i a12 a13 a14 a15 a16 a17 a18 a19 a20 a21 a22 a23 a32 a33 a34 a35 lo hi hQ
    obtain rfl : i = l.length := by omega
    refine W.loop ?_
    unfold b13_4
    repeat' first | apply W.seq | apply SQn | apply W.region | apply WO.nil | apply W.block | apply W.ret | apply W.exit | apply W.skip | apply SQr | apply SQe | apply BQn | apply BQr | apply BQe | (apply BQo; exact rfl) | apply LQe | apply LQr | (apply W.condT; exact rfl) | (apply W.condF; exact rfl) | (apply W.cond; exact rfl; all_goals intro _) | (apply WO.gT; exact rfl) | (apply WO.gF; exact rfl) | (apply WO.sT; exact rfl) | (apply WO.sF; exact rfl) | (apply WO.sU; exact rfl) | (apply WO.lss; exact rfl; exact rfl; all_goals first | (intro _; exfalso; omega) | intro _) | (apply WO.eql; exact rfl; exact rfl; all_goals first | (intro _; exfalso; omega) | intro _) | (apply WO.neq; exact rfl; exact rfl; all_goals first | (intro _; exfalso; omega) | intro _) | (apply WO.pkT; exact rfl; exact rfl) | (apply WO.pkF; exact rfl; exact rfl) | (apply WO.add; exact rfl; exact rfl; omega) | (apply WO.iav; exact rfl; exact rfl; omega) | (apply WO.ias; exact rfl; exact rfl; omega) | (apply WO.lda; exact rfl; exact fun _ => rfl; (first | omega | (simp only [List.length_set]; omega) | (simp; omega)); decide; exact rfl; case ia => infer_instance) | (apply WO.lsa; exact rfl; (first | exact rfl | assumption | exact at_new | (apply at_old; assumption) | (apply at_put; first | assumption | (simp only [put_length]; assumption))); exact fun _ => rfl; (first | omega | (simp only [List.length_set]; omega) | (simp; omega)); decide; exact rfl; case ia => infer_instance) | (apply WO.ldf; exact rfl; exact fun _ => rfl; (first | omega | (simp only [List.length_set]; omega) | (simp; omega)); decide; exact rfl; case ia => infer_instance) | (apply WO.lsf; exact rfl; (first | exact rfl | assumption | exact at_new | (apply at_old; assumption) | (apply at_put; first | assumption | (simp only [put_length]; assumption))); exact fun _ => rfl; (first | omega | (simp only [List.length_set]; omega) | (simp; omega)); decide; exact rfl; case ia => infer_instance) | (apply WO.seql; exact rfl; exact rfl; all_goals first | (intro h; exact absurd h (by decide)) | (intro h; exact absurd rfl h) | (intro h; contradiction) | intro _) | (apply WO.sneq; exact rfl; exact rfl; all_goals first | (intro h; exact absurd h (by decide)) | (intro h; exact absurd rfl h) | (intro h; contradiction) | intro _) | (apply WO.hlv; exact rfl; exact rfl; exact rfl) | (apply WO.hpv; exact rfl; exact rfl; exact rfl) | (apply WO.hnv; exact rfl; exact rfl; exact rfl) | (apply WO.pl; exact rfl; exact rfl) | (apply WO.pp; exact rfl; exact rfl)
    exact hQ _ _ _ _ _ _ _ _ _ _ _ _ _ _ _ _ _
  | succ r ih =>
    intro i a12 a13 a14 a15 a16 a17 a18 a19 a20 a21 a22 a23 a32 a33 a34 a35 lo hi hQ
    have fi : ((i : Int)).toNat = i := by omega
    have hil : i < l.length := by omega
    have hlen : (l.map (rankM l)).length = l.length := by simp
    have hle : l.countP (fun x => decide (cmpM x l[i]! < 0)) ≤ l.length := List.countP_le_length
    have ki : (l.map (rankM l))[((i : Int)).toNat]! = rankM l l[i]! := by
      rw [fi, getElem!_pos _ i (by simpa using hil), getElem!_pos l i hil]; simp
    refine W.loop ?_
    by_cases hi0 : l[((i : Int)).toNat]!.1 = sNone
    · have hi1 : l[i]!.1 = sNone := by rw [← fi]; exact hi0
      have hR : rankM l l[i]! = 0 := by rw [rankM, if_pos hi1]
      unfold b13_4
      repeat' first | (refine loop13_3 C l hn hok k1 i (by omega) hp hat _ _ _ _ _ _ _ _ _ _ _ _ _ _ _ _ _ _ l.length 0 _ _ _ _ _ _ _ _ _ _ _ _ _ (by omega) (fun z14 z15 z16 z17 z18 z19 z20 z21 z22 z23 z34 z35 lo => ?_)) | apply W.seq | apply SQn | apply W.region | apply WO.nil | apply W.block | apply W.ret | apply W.exit | apply W.skip | apply SQr | apply SQe | apply BQn | apply BQr | apply BQe | (apply BQo; exact rfl) | apply LQe | apply LQr | (apply W.condT; exact rfl) | (apply W.condF; exact rfl) | (apply W.cond; exact rfl; all_goals intro _) | (apply WO.gT; exact rfl) | (apply WO.gF; exact rfl) | (apply WO.sT; exact rfl) | (apply WO.sF; exact rfl) | (apply WO.sU; exact rfl) | (apply WO.lss; exact rfl; exact rfl; all_goals first | (intro _; exfalso; omega) | intro _) | (apply WO.eql; exact rfl; exact rfl; all_goals first | (intro _; exfalso; omega) | intro _) | (apply WO.neq; exact rfl; exact rfl; all_goals first | (intro _; exfalso; omega) | intro _) | (apply WO.pkT; exact rfl; exact rfl) | (apply WO.pkF; exact rfl; exact rfl) | (apply WO.add; exact rfl; exact rfl; omega) | (apply WO.iav; exact rfl; exact rfl; omega) | (apply WO.ias; exact rfl; exact rfl; omega) | (apply WO.lda; exact rfl; exact fun _ => rfl; (first | omega | (simp only [List.length_set]; omega) | (simp; omega)); decide; exact rfl; case ia => infer_instance) | (apply WO.lsa; exact rfl; (first | exact rfl | assumption | exact at_new | (apply at_old; assumption) | (apply at_put; first | assumption | (simp only [put_length]; assumption))); exact fun _ => rfl; (first | omega | (simp only [List.length_set]; omega) | (simp; omega)); decide; exact rfl; case ia => infer_instance) | (apply WO.ldf; exact rfl; exact fun _ => rfl; (first | omega | (simp only [List.length_set]; omega) | (simp; omega)); decide; exact rfl; case ia => infer_instance) | (apply WO.lsf; exact rfl; (first | exact rfl | assumption | exact at_new | (apply at_old; assumption) | (apply at_put; first | assumption | (simp only [put_length]; assumption))); exact fun _ => rfl; (first | omega | (simp only [List.length_set]; omega) | (simp; omega)); decide; exact rfl; case ia => infer_instance) | (apply WO.seql; exact rfl; exact rfl; all_goals first | (intro h; exact absurd h (by decide)) | (intro h; exact absurd rfl h) | (intro h; contradiction) | intro _) | (apply WO.sneq; exact rfl; exact rfl; all_goals first | (intro h; exact absurd h (by decide)) | (intro h; exact absurd rfl h) | (intro h; contradiction) | intro _) | (apply WO.hlv; exact rfl; exact rfl; exact rfl) | (apply WO.hpv; exact rfl; exact rfl; exact rfl) | (apply WO.hnv; exact rfl; exact rfl; exact rfl) | (apply WO.pl; exact rfl; exact rfl) | (apply WO.pp; exact rfl; exact rfl)
      all_goals exact LQn (ih (i + 1) _ _ _ _ _ _ _ _ _ _ _ _ _ _ _ _ _ (by omega) hQ)
    · have hi1 : l[i]!.1 ≠ sNone := by rw [← fi]; exact hi0
      have hR : rankM l l[i]! = ((l.countP fun x => decide (cmpM x l[i]! < 0) : Nat) : Int) + 1 := by rw [rankM, if_neg hi1]
      unfold b13_4
      repeat' first | (refine loop13_3 C l hn hok k1 i (by omega) hp hat _ _ _ _ _ _ _ _ _ _ _ _ _ _ _ _ _ _ l.length 0 _ _ _ _ _ _ _ _ _ _ _ _ _ (by omega) (fun z14 z15 z16 z17 z18 z19 z20 z21 z22 z23 z34 z35 lo => ?_)) | apply W.seq | apply SQn | apply W.region | apply WO.nil | apply W.block | apply W.ret | apply W.exit | apply W.skip | apply SQr | apply SQe | apply BQn | apply BQr | apply BQe | (apply BQo; exact rfl) | apply LQe | apply LQr | (apply W.condT; exact rfl) | (apply W.condF; exact rfl) | (apply W.cond; exact rfl; all_goals intro _) | (apply WO.gT; exact rfl) | (apply WO.gF; exact rfl) | (apply WO.sT; exact rfl) | (apply WO.sF; exact rfl) | (apply WO.sU; exact rfl) | (apply WO.lss; exact rfl; exact rfl; all_goals first | (intro _; exfalso; omega) | intro _) | (apply WO.eql; exact rfl; exact rfl; all_goals first | (intro _; exfalso; omega) | intro _) | (apply WO.neq; exact rfl; exact rfl; all_goals first | (intro _; exfalso; omega) | intro _) | (apply WO.pkT; exact rfl; exact rfl) | (apply WO.pkF; exact rfl; exact rfl) | (apply WO.add; exact rfl; exact rfl; omega) | (apply WO.iav; exact rfl; exact rfl; omega) | (apply WO.ias; exact rfl; exact rfl; omega) | (apply WO.lda; exact rfl; exact fun _ => rfl; (first | omega | (simp only [List.length_set]; omega) | (simp; omega)); decide; exact rfl; case ia => infer_instance) | (apply WO.lsa; exact rfl; (first | exact rfl | assumption | exact at_new | (apply at_old; assumption) | (apply at_put; first | assumption | (simp only [put_length]; assumption))); exact fun _ => rfl; (first | omega | (simp only [List.length_set]; omega) | (simp; omega)); decide; exact rfl; case ia => infer_instance) | (apply WO.ldf; exact rfl; exact fun _ => rfl; (first | omega | (simp only [List.length_set]; omega) | (simp; omega)); decide; exact rfl; case ia => infer_instance) | (apply WO.lsf; exact rfl; (first | exact rfl | assumption | exact at_new | (apply at_old; assumption) | (apply at_put; first | assumption | (simp only [put_length]; assumption))); exact fun _ => rfl; (first | omega | (simp only [List.length_set]; omega) | (simp; omega)); decide; exact rfl; case ia => infer_instance) | (apply WO.seql; exact rfl; exact rfl; all_goals first | (intro h; exact absurd h (by decide)) | (intro h; exact absurd rfl h) | (intro h; contradiction) | intro _) | (apply WO.sneq; exact rfl; exact rfl; all_goals first | (intro h; exact absurd h (by decide)) | (intro h; exact absurd rfl h) | (intro h; contradiction) | intro _) | (apply WO.hlv; exact rfl; exact rfl; exact rfl) | (apply WO.hpv; exact rfl; exact rfl; exact rfl) | (apply WO.hnv; exact rfl; exact rfl; exact rfl) | (apply WO.pl; exact rfl; exact rfl) | (apply WO.pp; exact rfl; exact rfl)
      all_goals exact LQn (ih (i + 1) _ _ _ _ _ _ _ _ _ _ _ _ _ _ _ _ _ (by omega) hQ)

theorem loop13_1 (l : List Mk) (hn : l.length ≤ 12) (ord : List Int) (hol : ord.length = l.length) (hor : ∀ x, x < l.length → 0 ≤ ord[x]! ∧ ord[x]! < l.length) (oth : List Int) (hthl : oth.length = l.length) (hth : ∀ x, x < l.length → oth[x]! = (l.map (rankM l))[(ord[x]!).toNat]!) (k1 k2 k3 : Nat) (hp : Heap) (hat : hp.at k1 = some (.cells (ints (l.map (rankM l))) 3)) (hat2 : hp.at k2 = some (.cells (ints ord) 3)) (hat3 : hp.at k3 = some (.cells (ints oth) 3)) (a1 a4 a5 a6 a7 a9 a12 a13 a14 a15 a16 a17 a18 a19 a20 a21 a22 a23 a24 a25 a26 a30 a31 a32 a33 a34 a35 : AV) (wr : List Nat) {Q : Ex → StW → Prop} : ∀ (r x : Nat) (a10 a11 : AV) (lo : List (Nat × AV)), x + r = l.length →
    (∀ z10 z11 lo, Q (.exit 2) ⟨⟨[.vs (arr cm l) l.length none, a1, .bool false, .sl k1 0 l.length 1 (some l.length), a4, a5, a6, a7, .sl k3 0 l.length 1 (some l.length), a9, z10, z11, a12, a13, a14, a15, a16, a17, a18, a19, a20, a21, a22, a23, a24, a25, a26, .sl k2 0 l.length 1 (some l.length), .int .i64 l.length, .int .i64 l.length, a30, a31, a32, a33, a34, a35], lo, hp, []⟩, wr⟩) →
    W M (.loop b13_1) ⟨⟨[.vs (arr cm l) l.length none, a1, .bool false, .sl k1 0 l.length 1 (some l.length), a4, a5, a6, a7, .sl k3 0 l.length 1 (some l.length), a9, a10, a11, a12, a13, a14, a15, a16, a17, a18, a19, a20, a21, a22, a23, a24, a25, a26, .sl k2 0 l.length 1 (some l.length), .int .i64 l.length, .int .i64 x, a30, a31, a32, a33, a34, a35], lo, hp, []⟩, wr⟩ Q := by
  intro r
  induction r with
  | zero =>
    intro x a10 a11 lo hx hQ
    obtain rfl : x = l.length := by omega
    refine W.loop ?_
    unfold b13_1
    repeat' first | apply W.seq | apply SQn | apply W.region | apply WO.nil | apply W.block | apply W.ret | apply W.exit | apply W.skip | apply SQr | apply SQe | apply BQn | apply BQr | apply BQe | (apply BQo; exact rfl) | apply LQe | apply LQr | (apply W.drawro; exact rfl) | apply W.draw | apply WD.nil | (apply WD.gT; exact rfl) | (apply WD.gF; exact rfl) | (apply WD.sT; exact rfl) | (apply WD.sF; exact rfl) | (apply WD.sU; exact rfl) | (apply WD.pure1; exact rfl) | (apply WD.load1; exact rfl; exact rfl; exact rfl) | (apply W.condT; exact rfl) | (apply W.condF; exact rfl) | (apply W.cond; exact rfl; all_goals intro _) | (apply WO.lss; exact rfl; exact rfl; all_goals first | (intro _; exfalso; omega) | intro _) | (apply WO.neq; exact rfl; exact rfl; all_goals first | (intro _; exfalso; omega) | intro _) | (apply WO.add; exact rfl; exact rfl; omega) | (apply WO.iav; exact rfl; exact rfl; omega) | (apply WO.ias; exact rfl; exact rfl; omega) | (apply WO.lda; exact rfl; exact fun _ => rfl; (first | omega | (simp only [List.length_set]; omega) | (simp; omega)); decide; exact rfl; case ia => infer_instance) | (apply WO.lsa; exact rfl; (first | exact rfl | assumption | exact at_new | (apply at_old; assumption) | (apply at_put; first | assumption | (simp only [put_length]; assumption))); exact fun _ => rfl; (first | omega | (simp only [List.length_set]; omega) | (simp; omega)); decide; exact rfl; case ia => infer_instance) | (apply WO.sneq; exact rfl; exact rfl; all_goals first | (intro h; exact absurd h (by decide)) | (intro h; exact absurd rfl h) | (intro h; contradiction) | intro _) | (apply WO.hlv; exact rfl; exact rfl; exact rfl) | (apply WO.hpv; exact rfl; exact rfl; exact rfl) | (apply WO.hnv; exact rfl; exact rfl; exact rfl) | (apply WO.pl; exact rfl; exact rfl) | (apply WO.pp; exact rfl; exact rfl)
    exact hQ _ _ _
  | succ r ih =>
    intro x a10 a11 lo hx hQ
    have fx : ((x : Int)).toNat = x := by omega
    have g1 := hor x (by omega)
    have g2 := hth x (by omega)
    rw [← fx] at g1 g2
    have hlen : (l.map (rankM l)).length = l.length := by simp
    refine W.loop ?_
    unfold b13_1
    repeat' first | apply W.seq | apply SQn | apply W.region | apply WO.nil | apply W.block | apply W.ret | apply W.exit | apply W.skip | apply SQr | apply SQe | apply BQn | apply BQr | apply BQe | (apply BQo; exact rfl) | apply LQe | apply LQr | (apply W.drawro; exact rfl) | apply W.draw | apply WD.nil | (apply WD.gT; exact rfl) | (apply WD.gF; exact rfl) | (apply WD.sT; exact rfl) | (apply WD.sF; exact rfl) | (apply WD.sU; exact rfl) | (apply WD.pure1; exact rfl) | (apply WD.load1; exact rfl; exact rfl; exact rfl) | (apply W.condT; exact rfl) | (apply W.condF; exact rfl) | (apply W.cond; exact rfl; all_goals intro _) | (apply WO.lss; exact rfl; exact rfl; all_goals first | (intro _; exfalso; omega) | intro _) | (apply WO.neq; exact rfl; exact rfl; all_goals first | (intro _; exfalso; omega) | intro _) | (apply WO.add; exact rfl; exact rfl; omega) | (apply WO.iav; exact rfl; exact rfl; omega) | (apply WO.ias; exact rfl; exact rfl; omega) | (apply WO.lda; exact rfl; exact fun _ => rfl; (first | omega | (simp only [List.length_set]; omega) | (simp; omega)); decide; exact rfl; case ia => infer_instance) | (apply WO.lsa; exact rfl; (first | exact rfl | assumption | exact at_new | (apply at_old; assumption) | (apply at_put; first | assumption | (simp only [put_length]; assumption))); exact fun _ => rfl; (first | omega | (simp only [List.length_set]; omega) | (simp; omega)); decide; exact rfl; case ia => infer_instance) | (apply WO.sneq; exact rfl; exact rfl; all_goals first | (intro h; exact absurd h (by decide)) | (intro h; exact absurd rfl h) | (intro h; contradiction) | intro _) | (apply WO.hlv; exact rfl; exact rfl; exact rfl) | (apply WO.hpv; exact rfl; exact rfl; exact rfl) | (apply WO.hnv; exact rfl; exact rfl; exact rfl) | (apply WO.pl; exact rfl; exact rfl) | (apply WO.pp; exact rfl; exact rfl)
    all_goals exact LQn (ih (x + 1) _ _ _ (by omega) hQ)

/-- The turned marks so far. -/
def OutM (hp : Heap) (o : AV) (acc : List Mk) (S : List Nat) : Prop := (acc = [] ∧ o = .nilsl) ∨ ∃ c, acc ≠ [] ∧ c ∉ S ∧ o = .sl c 0 acc.length 3 none ∧ hp.at c = some (.cells (arr cm acc) 49)
theorem OutM.push {t : Nat} {M : Mach} {m : Mk} {l : List IOper} {pe : List AV} {lo : List (Nat × AV)} {hp : Heap} {df wr : List Nat} {a b : IOpd} {o : AV} {acc : List Mk} {S : List Nat} {Q : StW → Prop} (h : OutM hp o acc S) (hS : ∀ x ∈ S, x < hp.length) (ha : (St.mk pe lo (hp ++ [some (.cells (cm m) 49)]) df).opd a = some o) (hb : (St.mk pe lo (hp ++ [some (.cells (cm m) 49)]) df).opd b = some (.sl hp.length 0 1 3 (some 1)))
    (hn : acc.length < 1000000) (hQ : ∀ (H : Heap) (w' : List Nat) o', OutM H o' (acc ++ [m]) S → (∀ x y, x ∈ S → hp.at x = some y → H.at x = some y) → (∀ x ∈ S, x < H.length) → WO M l ⟨⟨pe, (t, o') :: lo, H, df⟩, w'⟩ Q) : WO M (⟨.l t, .append 49 3 40 a b, none⟩ :: l) ⟨⟨pe, lo, hp ++ [some (.cells (cm m) 49)], df⟩, wr⟩ Q := by
  have hs : sliceCells (hp ++ [some (.cells (cm m) 49)]) (.sl hp.length 0 1 3 (some 1)) = some (cm m, 1) := by
    simp [sliceCells, at_new, cut]
  rcases h with ⟨rfl, rfl⟩ | ⟨c, hne, hcS, rfl, hc⟩
  · refine WO.apn ha hb hs ⟨rfl, by decide, rfl⟩ ⟨by decide, by decide⟩ (hQ _ _ _ (.inr ⟨(hp ++ [some (Blk.cells (cm m) 49)]).length, by simp, fun hx => ?_, rfl, ?_⟩) (fun x y _ hx => at_old (at_old hx)) (fun x hx => ?_))
    · have := hS _ hx; simp at this; omega
    · rw [at_new]; simp [arr]
    · have := hS x hx; simp; omega
  · have hroom : (acc.length + 1) * 40 ≤ roomLimit := by unfold roomLimit; omega
    refine WO.apo ha hb hs ⟨rfl, by decide, rfl⟩ ⟨by decide, hroom⟩ (at_old hc) (by rw [len_cm]; omega) (hQ _ _ _ (.inr ⟨(hp ++ [some (Blk.cells (cm m) 49)]).length, by simp, fun hx => ?_, by simp, ?_⟩) (fun x y hxS hx => at_old (at_else (fun e => hcS (e ▸ hxS)) (at_old hx))) (fun x hx => ?_))
    · have := hS _ hx; simp at this; omega
    · have e : ((hp ++ [some (Blk.cells (cm m) 49)]).put c none).length = (hp ++ [some (Blk.cells (cm m) 49)]).length := put_length
      rw [← e, at_new]
      simp [arr]
    · have := hS x hx; simp [put_length]; omega

theorem loop13_0 (l : List Mk) (hn : l.length ≤ 12) (ord : List Int) (hol : ord.length = l.length) (hor : ∀ x, x < l.length → 0 ≤ ord[x]! ∧ ord[x]! < l.length) (k1 k2 : Nat) (a1 a4 a8 a9 a10 a11 a12 a13 a14 a15 a16 a17 a18 a19 a20 a21 a22 a23 a27 a28 a29 a30 a31 a32 a33 a34 a35 : AV) {Q : Ex → StW → Prop} : ∀ (r x : Nat) (o a7 : AV) (lo : List (Nat × AV)) (hp : Heap) (wr : List Nat), x + r = l.length → hp.at k1 = some (.cells (ints (l.map (rankM l))) 3) → hp.at k2 = some (.cells (ints ord) 3) → OutM hp o ((ord.take x).map fun i => l[i.toNat]!) [k1, k2] →
    (∀ o z7 lo hp wr, hp.at k1 = some (.cells (ints (l.map (rankM l))) 3) → hp.at k2 = some (.cells (ints ord) 3) → OutM hp o (ord.map fun i => l[i.toNat]!) [k1, k2] → Q (.exit 0) ⟨⟨[.vs (arr cm l) l.length none, a1, .bool false, .sl k1 0 l.length 1 (some l.length), a4, .sl k2 0 l.length 1 (some l.length), o, z7, a8, a9, a10, a11, a12, a13, a14, a15, a16, a17, a18, a19, a20, a21, a22, a23, .sl k2 0 l.length 1 (some l.length), .int .i64 l.length, .int .i64 l.length, a27, a28, a29, a30, a31, a32, a33, a34, a35], lo, hp, []⟩, wr⟩) →
    W M (.loop b13_0) ⟨⟨[.vs (arr cm l) l.length none, a1, .bool false, .sl k1 0 l.length 1 (some l.length), a4, .sl k2 0 l.length 1 (some l.length), o, a7, a8, a9, a10, a11, a12, a13, a14, a15, a16, a17, a18, a19, a20, a21, a22, a23, .sl k2 0 l.length 1 (some l.length), .int .i64 l.length, .int .i64 x, a27, a28, a29, a30, a31, a32, a33, a34, a35], lo, hp, []⟩, wr⟩ Q := by
  intro r
  induction r with
  | zero =>
    intro x o a7 lo hp wr hx h1 h2 ho hQ
    obtain rfl : x = l.length := by omega
    refine W.loop ?_
    unfold b13_0
    repeat' first | apply W.seq | apply SQn | apply W.region | apply WO.nil | apply W.block | apply W.ret | apply W.exit | apply W.skip | apply SQr | apply SQe | apply BQn | apply BQr | apply BQe | (apply BQo; exact rfl) | apply LQe | apply LQr | (apply W.condT; exact rfl) | (apply W.condF; exact rfl) | (apply W.cond; exact rfl; all_goals intro _) | (apply WO.lss; exact rfl; exact rfl; all_goals first | (intro _; exfalso; omega) | intro _) | (apply WO.add; exact rfl; exact rfl; omega) | (apply WO.iav; exact rfl; exact rfl; omega) | (apply WO.ias; exact rfl; exact rfl; omega) | (apply WO.lda; exact rfl; exact fun _ => rfl; (first | omega | (simp only [List.length_set]; omega) | (simp; omega)); decide; exact rfl; case ia => infer_instance) | (apply WO.lsa; exact rfl; (first | exact rfl | assumption | exact at_new | (apply at_old; assumption) | (apply at_put; first | assumption | (simp only [put_length]; assumption))); exact fun _ => rfl; (first | omega | (simp only [List.length_set]; omega) | (simp; omega)); decide; exact rfl; case ia => infer_instance) | (apply WO.hlv; exact rfl; exact rfl; exact rfl) | (apply WO.hpv; exact rfl; exact rfl; exact rfl) | (apply WO.hnv; exact rfl; exact rfl; exact rfl) | (apply WO.pl; exact rfl; exact rfl) | (apply WO.pp; exact rfl; exact rfl)
    exact hQ _ _ _ _ _ h1 h2 (by rw [List.take_of_length_le (by omega)] at ho; exact ho)
  | succ r ih =>
    intro x o a7 lo hp wr hx h1 h2 ho hQ
    have fx : ((x : Int)).toNat = x := by omega
    have g1 := hor x (by omega)
    have e : (ord.take (x + 1)).map (fun i => l[i.toNat]!) = (ord.take x).map (fun i => l[i.toNat]!) ++ [l[(ord[((x : Int)).toNat]!).toNat]!] := by
      rw [fx, List.take_succ_eq_append_getElem (by omega), List.map_append, getElem!_pos ord x (by omega)]
      rfl
    rw [← fx] at g1
    have hlen : ((ord.take x).map fun i => l[i.toNat]!).length < 1000000 := by simp; omega
    have hS : ∀ y ∈ [k1, k2], y < hp.length := fun y hy => by
      have q1 := at_lt h1
      have q2 := at_lt h2
      simp at hy
      rcases hy with rfl | rfl <;> assumption
    refine W.loop ?_
    unfold b13_0
    repeat' first | apply W.seq | apply SQn | apply W.region | apply WO.nil | apply W.block | apply W.ret | apply W.exit | apply W.skip | apply SQr | apply SQe | apply BQn | apply BQr | apply BQe | (apply BQo; exact rfl) | apply LQe | apply LQr | (apply W.condT; exact rfl) | (apply W.condF; exact rfl) | (apply W.cond; exact rfl; all_goals intro _) | (apply WO.lss; exact rfl; exact rfl; all_goals first | (intro _; exfalso; omega) | intro _) | (apply WO.add; exact rfl; exact rfl; omega) | (refine OutM.push (m := l[(ord[((x : Int)).toNat]!).toNat]!) ho hS rfl rfl hlen (fun H w' o' ho' hk _ => ?_)) | (apply WO.iav; exact rfl; exact rfl; omega) | (apply WO.ias; exact rfl; exact rfl; omega) | (apply WO.lda; exact rfl; exact fun _ => rfl; (first | omega | (simp only [List.length_set]; omega) | (simp; omega)); decide; exact rfl; case ia => infer_instance) | (apply WO.lsa; exact rfl; (first | exact rfl | assumption | exact at_new | (apply at_old; assumption) | (apply at_put; first | assumption | (simp only [put_length]; assumption))); exact fun _ => rfl; (first | omega | (simp only [List.length_set]; omega) | (simp; omega)); decide; exact rfl; case ia => infer_instance) | (apply WO.hlv; exact rfl; exact rfl; exact rfl) | (apply WO.hpv; exact rfl; exact rfl; exact rfl) | (apply WO.hnv; exact rfl; exact rfl; exact rfl) | (apply WO.pl; exact rfl; exact rfl) | (apply WO.pp; exact rfl; exact rfl)
    refine LQn ?_
    exact ih (x + 1) _ _ _ _ _ (by omega) (hk _ _ (by simp) h1) (hk _ _ (by simp) h2) (by rw [e]; exact ho') hQ

theorem marks_at {h : Heap} {b n : Nat} {cap : Option Nat} {l : List Mk} {e : TypeId} (hb : h.at b = some (.cells (arr cm l) e)) (hl : l.length = n) : marksAt h (.sl b 0 n 3 cap) = some l := by
  subst hl
  have e1 : cut (arr cm l) 0 (l.length * 3) = some (arr cm l) := by
    rw [← len_cm]; simp [cut]
  simp only [marksAt, cellsAt, hb, e1, Option.map_some, decMks_arr]
  simp
theorem upto_map (l : List Mk) : (upto l.length).map (fun i => l[i.toNat]!) = l := by
  apply List.ext_getElem
  · simp [upto]
  · intro i h1 h2
    simp [upto] at h1 ⊢
    rw [getElem?_pos l i h2]
    rfl

set_option maxHeartbeats 4000000 in
theorem w13 (hft : M.FT = FT) (C : Calls13 M) (l : List Mk) (key : Int) : Run M 13 [.vs (arr cm l) l.length none, .int .i64 key] [] ⟨.bool true, [], []⟩ := by
  have hEnd : ∀ s : StW, s.s.dfs = [] → s.s.pe[2]? = some (.bool true) → ((fun (e : Ex) (s : StW) => (e = .normal ∨ e = .ret) ∧ s.s.dfs = [] ∧ ∃ vs, resultsA s.s [.var (.p 2)] = some vs ∧ tupA vs = .bool true ∧ (if (AV.bool true).top ≤ 0 then [] else s.s.hp) = []) Ex.ret s) := fun s h1 h2 =>
    ⟨.inr rfl, h1, [.bool true], by simp only [resultsA, St.opd, h2], rfl, rfl⟩
  refine run_of_W (by rw [hft]; exact ft13) (by simp) ?_
  by_cases hlen : 12 < l.length
  · unfold b13
    simp only [List.map_cons, List.map_nil, List.getElem?_cons_zero, List.getElem?_cons_succ, List.getElem?_nil, Option.getD_some, Option.getD_none]
    repeat' first | apply W.seq | apply SQn | apply W.region | apply WO.nil | apply W.block | apply W.ret | apply W.exit | apply W.skip | apply SQr | apply SQe | apply BQn | apply BQr | apply BQe | (apply BQo; exact rfl) | apply LQe | apply LQr | (apply W.condT; exact rfl) | (apply W.condF; exact rfl) | (apply W.cond; exact rfl; all_goals intro _) | (apply WO.gT; exact rfl) | (apply WO.gF; exact rfl) | (apply WO.sT; exact rfl) | (apply WO.sF; exact rfl) | (apply WO.sU; exact rfl) | (apply WO.gtr; exact rfl; exact rfl; all_goals first | (intro _; exfalso; omega) | intro _) | (apply WO.neq; exact rfl; exact rfl; all_goals first | (intro _; exfalso; omega) | intro _) | (apply WO.pkT; exact rfl; exact rfl) | (apply WO.pkF; exact rfl; exact rfl) | (apply WO.cll; exact rfl; exact rfl; first | exact C.c18 _) | (apply WO.sneq; exact rfl; exact rfl; all_goals first | (intro h; exact absurd h (by decide)) | (intro h; exact absurd rfl h) | (intro h; contradiction) | intro _) | (apply WO.clb; exact rfl; exact rfl; exact rfl; all_goals first | (intro h; exact absurd h (by decide)) | intro _) | (apply WO.cll; exact rfl; exact rfl; exact rfl) | (apply WO.pl; exact rfl; exact rfl) | (apply WO.pp; exact rfl; exact rfl)
    exact hEnd _ rfl rfl
  have q48 := fun h => C.c48 l none h (by omega)
  by_cases hE : marksE l = 0
  · rw [hE] at q48
    have q20 := fun h => C.c20 key l.length h
    by_cases hk : key < 1 ∨ 2147483646 < key ∨ (l.length : Int) < 0 ∨ 256 < (l.length : Int)
    · rw [if_pos hk] at q20
      unfold b13
      simp only [List.map_cons, List.map_nil, List.getElem?_cons_zero, List.getElem?_cons_succ, List.getElem?_nil, Option.getD_some, Option.getD_none]
      repeat' first | apply W.seq | apply SQn | apply W.region | apply WO.nil | apply W.block | apply W.ret | apply W.exit | apply W.skip | apply SQr | apply SQe | apply BQn | apply BQr | apply BQe | (apply BQo; exact rfl) | apply LQe | apply LQr | (apply W.condT; exact rfl) | (apply W.condF; exact rfl) | (apply W.cond; exact rfl; all_goals intro _) | (apply WO.gT; exact rfl) | (apply WO.gF; exact rfl) | (apply WO.sT; exact rfl) | (apply WO.sF; exact rfl) | (apply WO.sU; exact rfl) | (apply WO.gtr; exact rfl; exact rfl; all_goals first | (intro _; exfalso; omega) | intro _) | (apply WO.neq; exact rfl; exact rfl; all_goals first | (intro _; exfalso; omega) | intro _) | (apply WO.pkT; exact rfl; exact rfl) | (apply WO.pkF; exact rfl; exact rfl) | (apply WO.cll; exact rfl; exact rfl; first | exact C.c18 _ | exact q48 _ | exact q20 _) | (apply WO.sneq; exact rfl; exact rfl; all_goals first | (intro h; exact absurd h (by decide)) | (intro h; exact absurd rfl h) | (intro h; contradiction) | intro _) | (apply WO.clb; exact rfl; exact rfl; exact rfl; all_goals first | (intro h; exact absurd h (by decide)) | intro _) | (apply WO.cll; exact rfl; exact rfl; exact rfl) | (apply WO.pl; exact rfl; exact rfl) | (apply WO.pp; exact rfl; exact rfl)
      exact hEnd _ rfl rfl
    · rw [if_neg hk] at q20
      have hok := allOK_of hE
      have q49 := fun h => C.c49 (.vs (arr cm l) l.length none) l h marksAt_vs (by omega) hE
      have q22 := fun h => C.c22 key l.length h (by omega) (by omega) (by omega)
      obtain ⟨ord, hord⟩ : ∃ ord, ord = shuf (l.length - 1) key (upto l.length) := ⟨_, rfl⟩
      rw [← hord] at q22
      have hol : ord.length = l.length := by rw [hord, shuf_length, upto_length]
      have hor : ∀ x, x < l.length → 0 ≤ ord[x]! ∧ ord[x]! < l.length := fun x hx => by
        have hm : ord[x]! ∈ ord := by rw [getElem!_pos ord x (by omega)]; exact List.getElem_mem (by omega)
        rw [hord] at hm ⊢
        exact drawn_mem l.length key hm
      have hperm : (ord.map fun i => l[i.toNat]!).Perm l := by
        have h1 : ord.Perm (upto l.length) := by rw [hord]; exact shuf_perm _ _ _ (by rw [upto_length]; omega)
        have h2 := h1.map (fun i : Int => l[i.toNat]!)
        rw [upto_map] at h2
        exact h2
      obtain ⟨T, hT⟩ : ∃ T, T = ord.map fun i => l[i.toNat]! := ⟨_, rfl⟩
      rw [← hT] at hperm
      have hTl : T.length = l.length := hperm.length_eq
      have hTE := marksE_perm hE hperm
      have hTr : T.map (rankM T) = T.map (rankM l) := List.map_congr_left fun x _ => rank_perm hperm x
      have hTh : ∀ x, x < l.length → (T.map (rankM l))[x]! = (l.map (rankM l))[(ord[x]!).toNat]! := fun x hx => by
        obtain ⟨g1, g2⟩ := hor x hx
        rw [getElem!_pos _ x (by rw [List.length_map]; omega), getElem!_pos (l.map (rankM l)) _ (by rw [List.length_map]; omega)]
        have e1 : ord[x]! = ord[x]'(by omega) := getElem!_pos ord x (by omega)
        simp only [hT, List.map_map, List.getElem_map, Function.comp]
        rw [← e1, getElem!_pos l _ (by omega)]
      have q49b : ∀ o h, OutM h o T [0, 1] → M.ext 49 [o] h = some ⟨.tup [.sl h.length 0 l.length 1 (some l.length), .int .i64 0], h ++ [some (.cells (ints (T.map (rankM l))) 3)], []⟩ := fun o h ho => by
        have hm : marksAt h o = some T := by
          rcases ho with ⟨h1, rfl⟩ | ⟨c, _, _, rfl, h2⟩
          · rw [h1]; rfl
          · exact marks_at h2 rfl
        rw [C.c49 o T h hm (by omega) hTE, hTl, hTr]
      unfold b13
      simp only [List.map_cons, List.map_nil, List.getElem?_cons_zero, List.getElem?_cons_succ, List.getElem?_nil, Option.getD_some, Option.getD_none]
      repeat' first | apply W.seq | apply SQn | apply W.region | apply WO.nil | apply W.block | apply W.ret | apply W.exit | apply W.skip | apply SQr | apply SQe | apply BQn | apply BQr | apply BQe | (apply BQo; exact rfl) | apply LQe | apply LQr | (apply W.condT; exact rfl) | (apply W.condF; exact rfl) | (apply W.cond; exact rfl; all_goals intro _) | (apply WO.gT; exact rfl) | (apply WO.gF; exact rfl) | (apply WO.sT; exact rfl) | (apply WO.sF; exact rfl) | (apply WO.sU; exact rfl) | (apply WO.gtr; exact rfl; exact rfl; all_goals first | (intro _; exfalso; omega) | intro _) | (apply WO.neq; exact rfl; exact rfl; all_goals first | (intro _; exfalso; omega) | intro _) | (apply WO.pkT; exact rfl; exact rfl) | (apply WO.pkF; exact rfl; exact rfl) | (apply WO.cll; exact rfl; exact rfl; first | exact C.c18 _ | exact q48 _ | exact q20 _ | exact q49 _ | exact q22 _) | (apply WO.sneq; exact rfl; exact rfl; all_goals first | (intro h; exact absurd h (by decide)) | (intro h; exact absurd rfl h) | (intro h; contradiction) | intro _) | (apply WO.clb; exact rfl; exact rfl; exact rfl; all_goals first | (intro h; exact absurd h (by decide)) | intro _) | (apply WO.cll; exact rfl; exact rfl; exact rfl) | (apply WO.pl; exact rfl; exact rfl) | (apply WO.pp; exact rfl; exact rfl)
      refine loop13_0 l (by omega) ord hol hor 0 1 _ _ _ _ _ _ _ _ _ _ _ _ _ _ _ _ _ _ _ _ _ _ _ _ _ _ _ l.length 0 _ _ _ _ _ (by omega) rfl rfl (.inl ⟨rfl, rfl⟩) (fun o z7 lo hp wr h1 h2 ho => ?_)
      rw [← hT] at ho
      have q49c := q49b o hp ho
      repeat' first | apply W.seq | apply SQn | apply W.region | apply WO.nil | apply W.block | apply W.ret | apply W.exit | apply W.skip | apply SQr | apply SQe | apply BQn | apply BQr | apply BQe | (apply BQo; exact rfl) | apply LQe | apply LQr | (apply W.condT; exact rfl) | (apply W.condF; exact rfl) | (apply W.cond; exact rfl; all_goals intro _) | (apply WO.gT; exact rfl) | (apply WO.gF; exact rfl) | (apply WO.sT; exact rfl) | (apply WO.sF; exact rfl) | (apply WO.sU; exact rfl) | (apply WO.gtr; exact rfl; exact rfl; all_goals first | (intro _; exfalso; omega) | intro _) | (apply WO.neq; exact rfl; exact rfl; all_goals first | (intro _; exfalso; omega) | intro _) | (apply WO.pkT; exact rfl; exact rfl) | (apply WO.pkF; exact rfl; exact rfl) | (apply WO.cll; exact rfl; exact rfl; first | exact q49c) | (apply WO.sneq; exact rfl; exact rfl; all_goals first | (intro h; exact absurd h (by decide)) | (intro h; exact absurd rfl h) | (intro h; contradiction) | intro _) | (apply WO.clb; exact rfl; exact rfl; exact rfl; all_goals first | (intro h; exact absurd h (by decide)) | intro _) | (apply WO.cll; exact rfl; exact rfl; exact rfl) | (apply WO.pl; exact rfl; exact rfl) | (apply WO.pp; exact rfl; exact rfl)
      refine loop13_1 l (by omega) ord hol hor (T.map (rankM l)) (by simp; omega) hTh 0 1 hp.length _ (at_old h1) (at_old h2) at_new _ _ _ _ _ _ _ _ _ _ _ _ _ _ _ _ _ _ _ _ _ _ _ _ _ _ _ _ l.length 0 _ _ _ (by omega) (fun z10 z11 lo => ?_)
      repeat' first | apply W.seq | apply SQn | apply W.region | apply WO.nil | apply W.block | apply W.ret | apply W.exit | apply W.skip | apply SQr | apply SQe | apply BQn | apply BQr | apply BQe | (apply BQo; exact rfl) | apply LQe | apply LQr | (apply W.condT; exact rfl) | (apply W.condF; exact rfl) | (apply W.cond; exact rfl; all_goals intro _) | (apply WO.gT; exact rfl) | (apply WO.gF; exact rfl) | (apply WO.sT; exact rfl) | (apply WO.sF; exact rfl) | (apply WO.sU; exact rfl) | (apply WO.gtr; exact rfl; exact rfl; all_goals first | (intro _; exfalso; omega) | intro _) | (apply WO.neq; exact rfl; exact rfl; all_goals first | (intro _; exfalso; omega) | intro _) | (apply WO.pkT; exact rfl; exact rfl) | (apply WO.pkF; exact rfl; exact rfl) | (apply WO.sneq; exact rfl; exact rfl; all_goals first | (intro h; exact absurd h (by decide)) | (intro h; exact absurd rfl h) | (intro h; contradiction) | intro _) | (apply WO.clb; exact rfl; exact rfl; exact rfl; all_goals first | (intro h; exact absurd h (by decide)) | intro _) | (apply WO.cll; exact rfl; exact rfl; exact rfl) | (apply WO.pl; exact rfl; exact rfl) | (apply WO.pp; exact rfl; exact rfl)
      refine loop13_4 C l (by omega) hok 0 _ (at_old h1) _ _ _ _ _ _ _ _ _ _ _ _ _ _ _ _ l.length 0 _ _ _ _ _ _ _ _ _ _ _ _ _ _ _ _ _ (by omega) (fun z12 z13 z14 z15 z16 z17 z18 z19 z20 z21 z22 z23 z32 z33 z34 z35 lo => ?_)
      repeat' first | apply W.seq | apply SQn | apply W.region | apply WO.nil | apply W.block | apply W.ret | apply W.exit | apply W.skip | apply SQr | apply SQe | apply BQn | apply BQr | apply BQe | (apply BQo; exact rfl) | apply LQe | apply LQr | (apply W.condT; exact rfl) | (apply W.condF; exact rfl) | (apply W.cond; exact rfl; all_goals intro _) | (apply WO.gT; exact rfl) | (apply WO.gF; exact rfl) | (apply WO.sT; exact rfl) | (apply WO.sF; exact rfl) | (apply WO.sU; exact rfl) | (apply WO.gtr; exact rfl; exact rfl; all_goals first | (intro _; exfalso; omega) | intro _) | (apply WO.neq; exact rfl; exact rfl; all_goals first | (intro _; exfalso; omega) | intro _) | (apply WO.pkT; exact rfl; exact rfl) | (apply WO.pkF; exact rfl; exact rfl) | (apply WO.sneq; exact rfl; exact rfl; all_goals first | (intro h; exact absurd h (by decide)) | (intro h; exact absurd rfl h) | (intro h; contradiction) | intro _) | (apply WO.clb; exact rfl; exact rfl; exact rfl; all_goals first | (intro h; exact absurd h (by decide)) | intro _) | (apply WO.cll; exact rfl; exact rfl; exact rfl) | (apply WO.pl; exact rfl; exact rfl) | (apply WO.pp; exact rfl; exact rfl)
      exact hEnd _ rfl rfl
  · unfold b13
    simp only [List.map_cons, List.map_nil, List.getElem?_cons_zero, List.getElem?_cons_succ, List.getElem?_nil, Option.getD_some, Option.getD_none]
    generalize marksE l = e at *
    repeat' first | apply W.seq | apply SQn | apply W.region | apply WO.nil | apply W.block | apply W.ret | apply W.exit | apply W.skip | apply SQr | apply SQe | apply BQn | apply BQr | apply BQe | (apply BQo; exact rfl) | apply LQe | apply LQr | (apply W.condT; exact rfl) | (apply W.condF; exact rfl) | (apply W.cond; exact rfl; all_goals intro _) | (apply WO.gT; exact rfl) | (apply WO.gF; exact rfl) | (apply WO.sT; exact rfl) | (apply WO.sF; exact rfl) | (apply WO.sU; exact rfl) | (apply WO.gtr; exact rfl; exact rfl; all_goals first | (intro _; exfalso; omega) | intro _) | (apply WO.neq; exact rfl; exact rfl; all_goals first | (intro _; exfalso; omega) | intro _) | (apply WO.pkT; exact rfl; exact rfl) | (apply WO.pkF; exact rfl; exact rfl) | (apply WO.cll; exact rfl; exact rfl; first | exact C.c18 _ | exact q48 _) | (apply WO.sneq; exact rfl; exact rfl; all_goals first | (intro h; exact absurd h (by decide)) | (intro h; exact absurd rfl h) | (intro h; contradiction) | intro _) | (apply WO.clb; exact rfl; exact rfl; exact rfl; all_goals first | (intro h; exact absurd h (by decide)) | intro _) | (apply WO.cll; exact rfl; exact rfl; exact rfl) | (apply WO.pl; exact rfl; exact rfl) | (apply WO.pp; exact rfl; exact rfl)
    exact hEnd _ rfl rfl
end Go.Ab.Ch1


/-
  Own work: the contracts of MarkPreorder as a table.
-/
namespace Go.Ab.Ch1
open Go.Proofs

theorem ranks49s : SpecOK Tryz.prog gl 49 (specRanks 12) := ranks49_of (by decide) (sorts12 crk.pq crk.c115 cmpM_lt)

def TPreorder : List (Nat × Spec) := [(18, specAwake), (20, s20), (22, spec22), (37, specCompare), (48, specMarksE), (49, specRanks 12)]
theorem TPreorder_ok : ExtOK Tryz.prog gl (extS TPreorder) := tab_cons awake18 (tab_cons s20_ok (tab_cons draw22 (tab_cons compare37 (tab_cons marks48 (tab_cons ranks49s tab_nil)))))
theorem calls13 : Calls13 (mach Tryz.prog FT TPreorder) where
  c18 _ := by rw [mach_ext]; rfl
  c20 _ _ _ := by rw [mach_ext]; rfl
  c22 key n h h1 h2 h3 := by
    rw [mach_ext]
    show spec22 [.int .i64 key, .int .i64 n] h = _
    show (if _ then _ else _) = _
    rw [if_pos ⟨h1, h2, by omega, by omega⟩]
    simp only [Int.toNat_natCast]
  c37 a b h h1 h2 h3 := by
    rw [mach_ext]
    show specCompare [am a, am b] h = _
    have e : cmpE a.1 a.2.1 a.2.2 b.1 b.2.1 b.2.2 = 0 := by
      have h1 : chk a.1 a.2.1 a.2.2 = 0 := h1
      have h2 : chk b.1 b.2.1 b.2.2 = 0 := h2
      simp only [cmpE, firstNZ, h1, h2, h3, if_true, Bool.false_eq_true, if_false]
    show some (HR.mk (.tup [.int .i64 (if cmpE a.1 a.2.1 a.2.2 b.1 b.2.1 b.2.2 ≠ 0 then 0 else cmpW (worth a.1 a.2.1) (worth b.1 b.2.1)), .int .i64 (cmpE a.1 a.2.1 a.2.2 b.1 b.2.1 b.2.2)]) h []) = _
    rw [e, if_neg (fun h => h rfl)]
    rfl
  c48 l cap h hn := by
    rw [mach_ext]
    show specMarksE [.vs (arr cm l) l.length cap] h = _
    simp only [specMarksE, marksAt_vs, if_pos hn]
  c49 v l h hv hn hE := by
    rw [mach_ext]
    show specRanks 12 [v] h = _
    simp only [specRanks, hv]
    rw [if_pos (by omega), if_neg (fun h => h hE), if_pos hn]
end Go.Ab.Ch1


/-
  Own work: arguments that are slices of marks, as the abstract machine sees them.
-/
namespace Go.Ab.Ch1
open Go.Proofs Go.ChangeShapes Go.WideShapes Go.RowKit

theorem und49 : ∃ f0 f1 f2, Tryz.prog.underlying 49 = some (.struct #[f0, f1, f2]) ∧ f0.type = 9 ∧ f0.offset = 0 ∧ f1.type = 3 ∧ f1.offset = 1 ∧ f2.type = 9 ∧ f2.offset = 2 :=
  ⟨{ name := "Kind", type := 9, offset := 0, embedded := false, tag := "", pkgPath := "", byteOffset := 0 }, { name := "Value", type := 3, offset := 1, embedded := false, tag := "", pkgPath := "", byteOffset := 16 }, { name := "Reason", type := 9, offset := 2, embedded := false, tag := "", pkgPath := "", byteOffset := 24 }, by kernel_rfl, rfl, rfl, rfl, rfl, rfl, rfl⟩
theorem und70 : Tryz.prog.underlying 70 = some (.slice 49) := by kernel_rfl
theorem cells9 : Tryz.prog.cellsOf 9 = 1 := by kernel_rfl
theorem cells3 : Tryz.prog.cellsOf 3 = 1 := by kernel_rfl
theorem cells49 : Tryz.prog.cellsOf 49 = 3 := by kernel_rfl

abbrev mkOf (k : ByteArray) (z : Int) (r : ByteArray) : Mk := (k.data.toList, z, r.data.toList)
set_option maxRecDepth 100000 in
theorem mark_cells {H : Type} {enc : TypeId × Value → H} {W : World} {base : Nat} {sp : Nat → Bool} {hd : Bool} {fuel : Nat} {cs : List Value} {x : DataW H × List MemPlace} (hl : cs.length = 3) (hf : DataW.trod enc Tryz.prog W base sp hd fuel 49 cs = some x) :
    ∃ (k : ByteArray) (z : Int) (r : ByteArray), cs = [.string k, .int .i64 z, .string r] := by
  obtain ⟨f0, f1, f2, hu, e0, o0, e1, o1, e2, o2⟩ := und49
  match cs, hl with
  | [c0, c1, c2], _ =>
    obtain ⟨y0, y1, y2, n, hx, _, t0, t1, t2⟩ := Go.Deep.trod_struct3 hu hf
    simp only [e0, o0, e1, o1, e2, o2, cells9, cells3, List.drop, List.take] at t0 t1 t2
    obtain ⟨k, a0, _⟩ := DataW.trod_string und9 t0
    obtain ⟨z, a1, _⟩ := DataW.trod_int und3 t1
    obtain ⟨r, a2, _⟩ := DataW.trod_string und9 t2
    simp only [List.cons.injEq, and_true] at a0 a1 a2
    subst a0; subst a1; subst a2
    exact ⟨k, z, r, rfl⟩

/-- The cell j of the marks. -/
theorem arr_get (f : Nat → ByteArray × Int × ByteArray) : ∀ (n j : Nat) (x : AV), (arr cm ((List.range n).map fun i => mkOf (f i).1 (f i).2.1 (f i).2.2))[j]? = some x → j < n * 3 ∧ (x = .str (f (j / 3)).1.data.toList ∧ j % 3 = 0 ∨ x = .int .i64 (f (j / 3)).2.1 ∧ j % 3 = 1 ∨ x = .str (f (j / 3)).2.2.data.toList ∧ j % 3 = 2)
  | 0, j, x, h => by simp [arr] at h
  | n + 1, j, x, h => by
    have hl : (arr cm ((List.range n).map fun i => mkOf (f i).1 (f i).2.1 (f i).2.2)).length = n * 3 := by rw [len_cm]; simp
    rw [List.range_succ, List.map_append, arr_append] at h
    rcases Nat.lt_or_ge j (n * 3) with hj | hj
    · rw [List.getElem?_append_left (by omega)] at h
      obtain ⟨h1, h2⟩ := arr_get f n j x h
      exact ⟨by omega, h2⟩
    · rw [List.getElem?_append_right (by omega), hl] at h
      have e : arr cm (List.map (fun i => mkOf (f i).1 (f i).2.1 (f i).2.2) [n]) = [.str (f n).1.data.toList, .int .i64 (f n).2.1, .str (f n).2.2.data.toList] := rfl
      rw [e] at h
      have hlt : j - n * 3 < 3 := by
        have := (List.getElem?_eq_some_iff.1 h).1
        simpa using this
      have hq : j / 3 = n := by omega
      refine ⟨by omega, ?_⟩
      rw [hq]
      rcases (show j - n * 3 = 0 ∨ j - n * 3 = 1 ∨ j - n * 3 = 2 by omega) with h0 | h0 | h0
      · rw [h0] at h; simp at h; exact .inl ⟨h.symm, by omega⟩
      · rw [h0] at h; simp at h; exact .inr (.inl ⟨h.symm, by omega⟩)
      · rw [h0] at h; simp at h; exact .inr (.inr ⟨h.symm, by omega⟩)

set_option maxRecDepth 100000 in
theorem v_marks {H : Type} {enc : TypeId × Value → H} {W : World} {base : Nat} {sp : Nat → Bool} {v : Value} {d : DataW H} {ps : List MemPlace} (hval : Value.okWide Tryz.prog W .any base 70 v) (h : DataW.Trod enc Tryz.prog W 0 sp true 70 v d ps) : ∃ l : List Mk, V bare W (.vs (arr cm l) l.length none) v := by
  obtain ⟨a0, len0, cap0, rfl⟩ := okWide_slice und70 hval
  obtain ⟨fuel, hf⟩ := h
  rcases Go.Deep.open_slice und70 hf with ⟨hcs, _⟩ | ⟨a, len, cap, m, n, D, Pl, hcs, _, hle, _, hm, _, hall⟩
  · simp only [Value.cells, List.cons.injEq, Value.slice.injEq, and_true] at hcs
    obtain ⟨rfl, rfl, rfl⟩ := hcs
    exact ⟨[], .vsN (fun n hn => by cases hn)⟩
  · simp only [Value.cells, List.cons.injEq, Value.slice.injEq, and_true] at hcs
    obtain ⟨rfl, rfl, rfl⟩ := hcs
    have hs : a.spot = none := by
      simp only [Value.okWide, und70, Cell.okWide, Cell.ok, World.has] at hval
      exact hval.2.2.2.1
    obtain ⟨b, off, spot⟩ := a
    simp only at hs
    subst hs
    have hlen : len0 ≤ m := by rw [hm]; split <;> omega
    have hex : ∀ i, ∃ t : ByteArray × Int × ByteArray, i < len0 → W.cell? ⟨b, off + i * 3, none⟩ = some (.string t.1) ∧ W.cell? ⟨b, off + i * 3 + 1, none⟩ = some (.int .i64 t.2.1) ∧ W.cell? ⟨b, off + i * 3 + 2, none⟩ = some (.string t.2.2) := fun i => by
      by_cases hi : i < len0
      · obtain ⟨cs', h1, h2⟩ := hall i (by omega)
        rw [cells49] at h1
        obtain ⟨_, hl3, hc⟩ := World.cells?_some h1
        obtain ⟨k, z, r, rfl⟩ := mark_cells hl3 h2
        refine ⟨(k, z, r), fun _ => ?_⟩
        have c0 := hc 0 (by omega)
        have c1 := hc 1 (by omega)
        have c2 := hc 2 (by omega)
        rw [add_plain, add_plain] at c0 c1 c2
        exact ⟨c0, c1, c2⟩
      · exact ⟨(⟨#[]⟩, 0, ⟨#[]⟩), fun h => absurd h hi⟩
    obtain ⟨f, hf'⟩ := Classical.axiomOfChoice hex
    refine ⟨(List.range len0).map fun i => mkOf (f i).1 (f i).2.1 (f i).2.2, ?_⟩
    have el : ((List.range len0).map fun i => mkOf (f i).1 (f i).2.1 (f i).2.2).length = len0 := by simp
    rw [el]
    refine .vs b off (fun j => if j % 3 = 0 then .string (f (j / 3)).1 else if j % 3 = 1 then .int .i64 (f (j / 3)).2.1 else .string (f (j / 3)).2.2) (fun _ => free_bare) hle (fun n hn => by cases hn) (fun j hj => ?_) (fun j x hx => ?_)
    · rw [len_cm, el] at hj
      obtain ⟨g0, g1, g2⟩ := hf' (j / 3) (by omega)
      rcases (show j % 3 = 0 ∨ j % 3 = 1 ∨ j % 3 = 2 by omega) with h0 | h0 | h0
      · rw [if_pos h0, show off + j = off + j / 3 * 3 by omega]; exact g0
      · rw [if_neg (by omega), if_pos h0, show off + j = off + j / 3 * 3 + 1 by omega]; exact g1
      · rw [if_neg (by omega), if_neg (by omega), show off + j = off + j / 3 * 3 + 2 by omega]; exact g2
    · obtain ⟨_, hx'⟩ := arr_get f len0 j x hx
      rcases hx' with ⟨rfl, h0⟩ | ⟨rfl, h0⟩ | ⟨rfl, h0⟩
      · rw [if_pos h0]; exact V.str' _
      · rw [if_neg (by omega), if_pos h0]; exact .int _ _
      · rw [if_neg (by omega), if_neg (by omega)]; exact V.str' _
end Go.Ab.Ch1

