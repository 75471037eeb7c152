/-
  Own work: the resolved code of some functions of chapter 1.
-/
import Derived.Test.YtcjphdmkgmkabaaGreatDoorCh1Base
import Derived.Test.YtcjphdmkgmkabaaGreatDoorLib2
import Derived.Test.YtcjphdmkgmkabaaGreatDoorCh1Row
namespace Go.Ab.Ch1
set_option maxRecDepth 1000000
/-- stadion/mark.outside -/
def b95 : ICode :=
 .seq (.region [⟨(.p 3), .mv (.c (.bool false)), none⟩])
  (.seq (.region [⟨(.l 7), .mv (.p 0), none⟩,
     ⟨(.l 8), .mv (.p 1), none⟩,
     ⟨(.l 9), .bin .lss (.l 7) (.l 8), none⟩,
     ⟨(.l 10), .mv (.l 9), none⟩,
     ⟨(.l 11), .mv (.p 0), some ((.l 10), false)⟩,
     ⟨(.l 12), .mv (.p 2), some ((.l 10), false)⟩,
     ⟨(.l 13), .bin .gtr (.l 11) (.l 12), some ((.l 10), false)⟩,
     ⟨(.l 14), .pick (.l 10) (.c (.bool true)) (.l 13), none⟩,
     ⟨(.p 3), .mv (.l 14), none⟩])
   (.ret))
theorem ft95 : FT 95 = some ⟨15, [0, 1, 2, 6], [.var (.p 3)], b95⟩ := by kernel_rfl

end Go.Ab.Ch1


/-
  Own work: plain facts of drawn orders: an exchange after the other gives an order of the same elements; its last place and the rest.
-/
namespace Go.Ab

end Go.Ab


/-
  Own work: mark.Draw, mark.outside, stadionref01.CheckDraw: what they compute.
-/
namespace Go.Ab.Ch1
open Go.Proofs.Tryz
variable {M : Mach}

theorem w95 (hft : M.FT = FT) (x lo hi : Int) : Run M 95 [.int .i64 x, .int .i64 lo, .int .i64 hi] [] ⟨.bool (decide (x < lo) || decide (hi < x)), [], []⟩ := by
  refine run_of_W (by rw [hft]; exact ft95) (by simp) ?_
  unfold b95
  repeat' first | apply W.seq | apply SQn | apply W.region | apply WO.nil | apply W.block | apply W.ret | apply W.exit | apply W.skip | apply SQr | apply SQe | apply BQn | apply BQr | apply BQe | (apply BQo; exact rfl) | apply LQe | apply LQr | (apply W.condT; exact rfl) | (apply W.condF; exact rfl) | (apply W.cond; exact rfl; all_goals intro _) | (apply WO.gT; exact rfl) | (apply WO.gF; exact rfl) | (apply WO.sT; exact rfl) | (apply WO.sF; exact rfl) | (apply WO.sU; exact rfl) | (apply WO.lss; exact rfl; exact rfl; all_goals first | (intro _; exfalso; omega) | intro _) | (apply WO.gtr; exact rfl; exact rfl; all_goals first | (intro _; exfalso; omega) | intro _) | (apply WO.pkT; exact rfl; exact rfl) | (apply WO.pkF; exact rfl; exact rfl) | (apply WO.pl; exact rfl; exact rfl) | (apply WO.pp; exact rfl; exact rfl)
  all_goals exact ⟨.inr rfl, rfl, _, rfl, by simp [tupA, *]; try omega, by simp [AV.top]⟩

end Go.Ab.Ch1


/-
  Own work: contracts of chapter 1 as a table.
-/
namespace Go.Ab
open Go.ChangeShapes Go.WideShapes Go.RowKit
variable {P : Program} {gl : Nat → Option AV}

theorem mach_ft {FT : FuncId → Option IFunc} {T : List (Nat × Spec)} : (mach P FT T).FT = FT := rfl
theorem mach_ext {FT : FuncId → Option IFunc} {T : List (Nat × Spec)} : (mach P FT T).ext = extS T := rfl

/-- A law that answers true, as the kit's contract. -/
theorem calls_true {FT : FuncId → Option IFunc} (hs : Seat P gl FT) {T : List (Nat × Spec)} (hT : ExtOK P gl (extS T)) {f : Nat} {xs : List AV} {w : World} (hr : Run (mach P FT T) f xs [] ⟨.bool true, [], []⟩)
    (hgl : ∀ g v, gl g = some v → V bare w v (.pointer (some ⟨g, 0, none⟩))) {as' : List Value} (hv : VL bare w xs as') : Calls P f as'.toArray w fun e w' => e = .returned (.bool true) ∧ Below w.heap.size w w' := by
  obtain ⟨n, hn⟩ := hr
  refine (calls_of_run hs.mix hT hs.ft hn hgl hv).mono fun e w' he => ?_
  obtain ⟨v', h1, ⟨ρ', h2⟩, h3⟩ := he
  cases h2
  exact ⟨h1, below_of h3⟩
end Go.Ab
namespace Go.Ab.Ch1
open Go.Proofs

def s18 : Spec := spec0 [] (.bool true)
theorem s18_ok : SpecOK Tryz.prog gl 18 s18 := spec0_ok gl_top rfl rfl o22
def s95 : Spec := fun
  | [.int .i64 x, .int .i64 lo, .int .i64 hi], h => some ⟨.bool (decide (x < lo) || decide (hi < x)), h, []⟩
  | _, _ => none
theorem s95_ok : SpecOK Tryz.prog gl 95 s95 := by
  intro xs h r hq
  unfold s95 at hq
  split at hq
  · cases hq
    exact ent_run0 seat tab_nil (w95 (M := mach Tryz.prog FT []) mach_ft _ _ _) (FrL.same rfl) rfl (.inl rfl)
  · cases hq

end Go.Ab.Ch1


/-
  Own work: the resolved code of some functions of chapter 1: first, when.
-/
namespace Go.Ab.Ch1
set_option maxRecDepth 1000000
/-- stadion/mark.when -/
def b97 : ICode :=
 .seq (.region [⟨(.p 2), .mv (.c (.int .i64 (0))), none⟩])
  (.seq (.seq (.region [⟨(.l 5), .mv (.p 0), none⟩])
    (.cond (.l 5)
     (.seq (.region [⟨(.l 6), .mv (.p 1), none⟩,
        ⟨(.p 2), .mv (.l 6), none⟩])
      (.ret))
     (.skip)))
   (.seq (.region [⟨(.p 2), .mv (.c (.int .i64 (0))), none⟩])
    (.ret)))
theorem ft97 : FT 97 = some ⟨7, [0, 1, 4], [.var (.p 2)], b97⟩ := by kernel_rfl

def b96_0 : ICode :=
 .seq (.region [⟨(.l 8), .bin .lss (.p 5) (.p 4), none⟩])
  (.seq (.cond (.l 8)
    (.skip)
    (.exit 0))
   (.seq (.block 1
     (.seq (.region [⟨(.l 9), .iaddr none 1 (.p 3) (.p 5), none⟩,
        ⟨(.l 10), .load 1 false (.l 9), none⟩,
        ⟨(.p 2), .mv (.l 10), none⟩])
      (.seq (.region [⟨(.l 11), .mv (.p 2), none⟩,
         ⟨(.l 12), .bin .neq (.l 11) (.c (.int .i64 (0))), none⟩])
       (.cond (.l 12)
        (.seq (.region [⟨(.l 13), .mv (.p 2), none⟩,
           ⟨(.p 1), .mv (.l 13), none⟩])
         (.ret))
        (.skip)))))
    (.region [⟨(.l 14), .bin .add (.p 5) (.c (.int .i64 (1))), none⟩,
      ⟨(.p 5), .mv (.l 14), none⟩])))
/-- stadion/mark.first -/
def b96 : ICode :=
 .seq (.region [⟨(.p 1), .mv (.c (.int .i64 (0))), none⟩])
  (.seq (.seq (.region [⟨(.p 3), .mv (.p 0), none⟩,
      ⟨(.p 4), .len .sl (.p 3), none⟩,
      ⟨(.p 5), .mv (.c (.int .i64 (0))), none⟩])
    (.block 0
     (.loop b96_0)))
   (.seq (.region [⟨(.p 1), .mv (.c (.int .i64 (0))), none⟩])
    (.ret)))
theorem ft96 : FT 96 = some ⟨15, [0, 2, 4, 5, 6, 7], [.var (.p 1)], b96⟩ := by kernel_rfl

/-- stadion/stadionlaw01.when -/
def b25 : ICode :=
 .seq (.region [⟨(.p 2), .mv (.c (.int .i64 (0))), none⟩])
  (.seq (.seq (.region [⟨(.l 5), .mv (.p 0), none⟩])
    (.cond (.l 5)
     (.seq (.region [⟨(.l 6), .mv (.p 1), none⟩,
        ⟨(.p 2), .mv (.l 6), none⟩])
      (.ret))
     (.skip)))
   (.seq (.region [⟨(.p 2), .mv (.c (.int .i64 (0))), none⟩])
    (.ret)))
theorem ft25 : FT 25 = some ⟨7, [0, 1, 4], [.var (.p 2)], b25⟩ := by kernel_rfl

def b24_0 : ICode :=
 .seq (.seq (.region [⟨(.l 4), .mv (.p 2), none⟩,
     ⟨(.l 5), .mv (.p 0), none⟩,
     ⟨(.l 6), .len .sl (.l 5), none⟩,
     ⟨(.l 7), .bin .lss (.l 4) (.l 6), none⟩])
   (.cond (.l 7)
    (.skip)
    (.exit 0)))
  (.seq (.block 1
    (.seq (.region [⟨(.l 10), .mv (.p 0), none⟩,
       ⟨(.l 11), .mv (.p 2), none⟩,
       ⟨(.l 12), .iaddr none 1 (.l 10) (.l 11), none⟩,
       ⟨(.l 13), .load 1 false (.l 12), none⟩,
       ⟨(.l 14), .bin .neq (.l 13) (.c (.int .i64 (0))), none⟩])
     (.cond (.l 14)
      (.seq (.region [⟨(.l 15), .mv (.p 0), none⟩,
         ⟨(.l 16), .mv (.p 2), none⟩,
         ⟨(.l 17), .iaddr none 1 (.l 15) (.l 16), none⟩,
         ⟨(.l 18), .load 1 false (.l 17), none⟩,
         ⟨(.p 1), .mv (.l 18), none⟩])
       (.ret))
      (.skip))))
   (.region [⟨(.l 8), .mv (.p 2), none⟩,
     ⟨(.l 9), .bin .add (.l 8) (.c (.int .i64 (1))), none⟩,
     ⟨(.p 2), .mv (.l 9), none⟩]))
/-- stadion/stadionlaw01.first -/
def b24 : ICode :=
 .seq (.region [⟨(.p 1), .mv (.c (.int .i64 (0))), none⟩])
  (.seq (.seq (.region [⟨(.p 2), .mv (.c (.int .i64 (0))), none⟩])
    (.block 0
     (.loop b24_0)))
   (.seq (.region [⟨(.p 1), .mv (.c (.int .i64 (0))), none⟩])
    (.ret)))
theorem ft24 : FT 24 = some ⟨19, [0, 2, 3], [.var (.p 1)], b24⟩ := by kernel_rfl

end Go.Ab.Ch1


/-
  Own work: first and when of chapter 1.
-/
namespace Go.Ab.Ch1
variable {inv : InvF} {F : FuncId → Option IFunc}

abbrev mk0 (T : List (Nat × Spec)) (inv : InvF) (F : FuncId → Option IFunc) : Mach := ⟨extS T, inv, F⟩

theorem ext_hd {g : Nat} {sp : Spec} {T : List (Nat × Spec)} {xs : List AV} {h : Heap} : extS ((g, sp) :: T) g xs h = sp xs h := by simp [extS]

def firstNZ : List Int → Int
  | [] => 0
  | e :: r => if e = 0 then firstNZ r else e

def specWhen : Spec := fun
  | [.bool t, .int .i64 e], h => some ⟨.int .i64 (if t then e else 0), h, []⟩
  | _, _ => none
def specFirst : Spec := fun
  | [v], h => match intsAt h v with
    | some l => if l.length < 4611686018427387904 then some ⟨.int .i64 (firstNZ l), h, []⟩ else none
    | none => none
  | _, _ => none

theorem w97 {T : List (Nat × Spec)} (hft : F = FT) (t : Bool) (e : Int) : Run (mk0 T inv F) 97 [.bool t, .int .i64 e] [] ⟨.int .i64 (if t then e else 0), [], []⟩ := by
  refine run_of_W (show F 97 = _ from by rw [hft]; exact ft97) (by simp) ?_
  unfold b97
  simp only [List.map_cons, List.map_nil, List.getElem?_cons_zero, List.getElem?_cons_succ, List.getElem?_nil, Option.getD_some, Option.getD_none]
  cases t
  all_goals
    repeat' first | apply W.seq | apply SQn | apply W.region | apply WO.nil | apply W.block | apply W.ret | apply W.exit | apply W.skip | apply SQr | apply SQe | apply BQn | apply BQr | apply BQe | (apply BQo; exact rfl) | apply LQe | apply LQr | (apply W.condT; exact rfl) | (apply W.condF; exact rfl) | (apply W.cond; exact rfl; all_goals intro _) | (apply WO.pl; exact rfl; exact rfl) | (apply WO.pp; exact rfl; exact rfl)
  all_goals exact ⟨.inr rfl, rfl, _, rfl, rfl, rfl⟩

theorem w25 {T : List (Nat × Spec)} (hft : F = FT) (t : Bool) (e : Int) : Run (mk0 T inv F) 25 [.bool t, .int .i64 e] [] ⟨.int .i64 (if t then e else 0), [], []⟩ := by
  refine run_of_W (show F 25 = _ from by rw [hft]; exact ft25) (by simp) ?_
  unfold b25
  simp only [List.map_cons, List.map_nil, List.getElem?_cons_zero, List.getElem?_cons_succ, List.getElem?_nil, Option.getD_some, Option.getD_none]
  cases t
  all_goals
    repeat' first | apply W.seq | apply SQn | apply W.region | apply WO.nil | apply W.block | apply W.ret | apply W.exit | apply W.skip | apply SQr | apply SQe | apply BQn | apply BQr | apply BQe | (apply BQo; exact rfl) | apply LQe | apply LQr | (apply W.condT; exact rfl) | (apply W.condF; exact rfl) | (apply W.cond; exact rfl; all_goals intro _) | (apply WO.pl; exact rfl; exact rfl) | (apply WO.pp; exact rfl; exact rfl)
  all_goals exact ⟨.inr rfl, rfl, _, rfl, rfl, rfl⟩

theorem firstNZ_drop {l : List Int} {i : Nat} (h : i < l.length) : firstNZ (l.drop i) = if l[i]! = 0 then firstNZ (l.drop (i + 1)) else l[i]! := by
  rw [List.drop_eq_getElem_cons h, getElem!_pos l i h, firstNZ]

theorem body96 {T : List (Nat × Spec)} (l : List Int) (cap : Option Nat) (a0 : AV) (hl : l.length < 4611686018427387904) (hp : Heap) (df : List Nat) {Q : Ex → StW → Prop} : ∀ (r i : Nat), i + r = l.length → ∀ (a1 a2 : AV) (lo : List (Nat × AV)) (wr : List Nat),
    (firstNZ (l.drop i) = 0 → ∀ a2 lo wr, Q (.exit 0) ⟨⟨[a0, a1, a2, .vs (ints l) l.length cap, .int .i64 l.length, .int .i64 l.length], lo, hp, df⟩, wr⟩) →
    (∀ a2 a5 lo wr, Q .ret ⟨⟨[a0, .int .i64 (firstNZ (l.drop i)), a2, .vs (ints l) l.length cap, .int .i64 l.length, a5], lo, hp, df⟩, wr⟩) →
    W (mk0 T inv F) (.loop b96_0) ⟨⟨[a0, a1, a2, .vs (ints l) l.length cap, .int .i64 l.length, .int .i64 i], lo, hp, df⟩, wr⟩ Q
  | 0, i, hi, a1, a2, lo, wr, h1, h2 => by
    obtain rfl : i = l.length := by omega
    refine W.loop ?_
    unfold b96_0
    repeat' first | apply W.seq | apply SQn | apply W.region | apply WO.nil | apply W.block | apply W.ret | apply W.exit | apply W.skip | apply SQr | apply SQe | apply BQn | apply BQr | apply BQe | (apply BQo; exact rfl) | apply LQe | apply LQr | (apply W.condT; exact rfl) | (apply W.condF; exact rfl) | (apply W.cond; exact rfl; all_goals intro _) | (apply WO.lss; exact rfl; exact rfl; all_goals first | (intro _; exfalso; omega) | intro _) | (apply WO.neq; exact rfl; exact rfl; all_goals first | (intro _; exfalso; omega) | intro _) | (apply WO.add; exact rfl; exact rfl; omega) | (apply WO.iav; exact rfl; exact rfl; omega) | (apply WO.ias; exact rfl; exact rfl; omega) | (apply WO.lda; exact rfl; exact fun _ => rfl; (first | omega | (simp only [List.length_set]; omega) | (simp; omega)); decide; exact rfl; case ia => infer_instance) | (apply WO.lsa; exact rfl; (first | exact rfl | assumption | exact at_new | (apply at_old; assumption) | (apply at_put; first | assumption | (simp only [put_length]; assumption))); exact fun _ => rfl; (first | omega | (simp only [List.length_set]; omega) | (simp; omega)); decide; exact rfl; case ia => infer_instance) | (apply WO.sneq; exact rfl; exact rfl; all_goals first | (intro h; exact absurd h (by decide)) | (intro h; exact absurd rfl h) | (intro h; contradiction) | intro _) | (apply WO.hlv; exact rfl; exact rfl; exact rfl) | (apply WO.hpv; exact rfl; exact rfl; exact rfl) | (apply WO.hnv; exact rfl; exact rfl; exact rfl) | (apply WO.pl; exact rfl; exact rfl) | (apply WO.pp; exact rfl; exact rfl)
    exact h1 (by simp [firstNZ]) _ _ _
  | r + 1, i, hi, a1, a2, lo, wr, h1, h2 => by
    have e := firstNZ_drop (l := l) (i := (i : Int).toNat) (by omega)
    rw [Int.toNat_natCast] at e
    refine W.loop ?_
    unfold b96_0
    repeat' first | apply W.seq | apply SQn | apply W.region | apply WO.nil | apply W.block | apply W.ret | apply W.exit | apply W.skip | apply SQr | apply SQe | apply BQn | apply BQr | apply BQe | (apply BQo; exact rfl) | apply LQe | apply LQr | (apply W.condT; exact rfl) | (apply W.condF; exact rfl) | (apply W.cond; exact rfl; all_goals intro _) | (apply WO.lss; exact rfl; exact rfl; all_goals first | (intro _; exfalso; omega) | intro _) | (apply WO.neq; exact rfl; exact rfl; all_goals first | (intro _; exfalso; omega) | intro _) | (apply WO.add; exact rfl; exact rfl; omega) | (apply WO.iav; exact rfl; exact rfl; omega) | (apply WO.ias; exact rfl; exact rfl; omega) | (apply WO.lda; exact rfl; exact fun _ => rfl; (first | omega | (simp only [List.length_set]; omega) | (simp; omega)); decide; exact rfl; case ia => infer_instance) | (apply WO.lsa; exact rfl; (first | exact rfl | assumption | exact at_new | (apply at_old; assumption) | (apply at_put; first | assumption | (simp only [put_length]; assumption))); exact fun _ => rfl; (first | omega | (simp only [List.length_set]; omega) | (simp; omega)); decide; exact rfl; case ia => infer_instance) | (apply WO.sneq; exact rfl; exact rfl; all_goals first | (intro h; exact absurd h (by decide)) | (intro h; exact absurd rfl h) | (intro h; contradiction) | intro _) | (apply WO.hlv; exact rfl; exact rfl; exact rfl) | (apply WO.hpv; exact rfl; exact rfl; exact rfl) | (apply WO.hnv; exact rfl; exact rfl; exact rfl) | (apply WO.pl; exact rfl; exact rfl) | (apply WO.pp; exact rfl; exact rfl)
    · rename_i hne
      rw [Int.toNat_natCast] at hne
      rw [if_neg hne] at e
      rw [e] at h2
      exact h2 _ _ _ _
    · rename_i he
      rw [Int.toNat_natCast] at he
      rw [if_pos he] at e
      rw [e] at h1 h2
      exact LQn (body96 l cap a0 hl hp df r (i + 1) (by omega) _ _ _ _ h1 h2)
theorem w96 {T : List (Nat × Spec)} (hft : F = FT) (l : List Int) (cap : Option Nat) (hl : l.length < 4611686018427387904) : Run (mk0 T inv F) 96 [.vs (ints l) l.length cap] [] ⟨.int .i64 (firstNZ l), [], []⟩ := by
  refine run_of_W (show F 96 = _ from by rw [hft]; exact ft96) (by simp) ?_
  unfold b96
  simp only [List.map_cons, List.map_nil, List.getElem?_cons_zero, List.getElem?_cons_succ, List.getElem?_nil, Option.getD_some, Option.getD_none]
  repeat' first | apply W.seq | apply SQn | apply W.region | apply WO.nil | apply W.block | apply W.ret | apply W.exit | apply W.skip | apply SQr | apply SQe | apply BQn | apply BQr | apply BQe | (apply BQo; exact rfl) | apply LQe | apply LQr | (apply W.condT; exact rfl) | (apply W.condF; exact rfl) | (apply W.cond; exact rfl; all_goals intro _) | (apply WO.pl; exact rfl; exact rfl) | (apply WO.pp; exact rfl; exact rfl)
  refine body96 l cap _ hl _ _ l.length 0 (by omega) _ _ _ _ (fun h a2 lo wr => ?_) (fun a2 a5 lo wr => ?_)
  · repeat' first | apply W.seq | apply SQn | apply W.region | apply WO.nil | apply W.block | apply W.ret | apply W.exit | apply W.skip | apply SQr | apply SQe | apply BQn | apply BQr | apply BQe | (apply BQo; exact rfl) | apply LQe | apply LQr | (apply W.condT; exact rfl) | (apply W.condF; exact rfl) | (apply W.cond; exact rfl; all_goals intro _) | (apply WO.pl; exact rfl; exact rfl) | (apply WO.pp; exact rfl; exact rfl)
    exact ⟨.inr rfl, rfl, _, rfl, by rw [List.drop_zero] at h; rw [h]; rfl, rfl⟩
  · repeat' first | apply W.seq | apply SQn | apply W.region | apply WO.nil | apply W.block | apply W.ret | apply W.exit | apply W.skip | apply SQr | apply SQe | apply BQn | apply BQr | apply BQe | (apply BQo; exact rfl) | apply LQe | apply LQr | (apply W.condT; exact rfl) | (apply W.condF; exact rfl) | (apply W.cond; exact rfl; all_goals intro _) | (apply WO.pl; exact rfl; exact rfl) | (apply WO.pp; exact rfl; exact rfl)
    exact ⟨.inr rfl, rfl, _, rfl, rfl, rfl⟩

/-! slices.Index, slices.Contains. -/
theorem body24 {T : List (Nat × Spec)} (l : List Int) (cap : Option Nat) (hl : l.length < 4611686018427387904) (hp : Heap) (df : List Nat) {Q : Ex → StW → Prop} : ∀ (r i : Nat), i + r = l.length → ∀ (a1 : AV) (lo : List (Nat × AV)) (wr : List Nat),
    (firstNZ (l.drop i) = 0 → ∀ lo wr, Q (.exit 0) ⟨⟨[.vs (ints l) l.length cap, a1, .int .i64 l.length], lo, hp, df⟩, wr⟩) →
    (∀ a2 lo wr, Q .ret ⟨⟨[.vs (ints l) l.length cap, .int .i64 (firstNZ (l.drop i)), a2], lo, hp, df⟩, wr⟩) →
    W (mk0 T inv F) (.loop b24_0) ⟨⟨[.vs (ints l) l.length cap, a1, .int .i64 i], lo, hp, df⟩, wr⟩ Q
  | 0, i, hi, a1, lo, wr, h1, h2 => by
    obtain rfl : i = l.length := by omega
    refine W.loop ?_
    unfold b24_0
    repeat' first | apply W.seq | apply SQn | apply W.region | apply WO.nil | apply W.block | apply W.ret | apply W.exit | apply W.skip | apply SQr | apply SQe | apply BQn | apply BQr | apply BQe | (apply BQo; exact rfl) | apply LQe | apply LQr | (apply W.condT; exact rfl) | (apply W.condF; exact rfl) | (apply W.cond; exact rfl; all_goals intro _) | (apply WO.lss; exact rfl; exact rfl; all_goals first | (intro _; exfalso; omega) | intro _) | (apply WO.neq; exact rfl; exact rfl; all_goals first | (intro _; exfalso; omega) | intro _) | (apply WO.add; exact rfl; exact rfl; omega) | (apply WO.iav; exact rfl; exact rfl; omega) | (apply WO.ias; exact rfl; exact rfl; omega) | (apply WO.lda; exact rfl; exact fun _ => rfl; (first | omega | (simp only [List.length_set]; omega) | (simp; omega)); decide; exact rfl; case ia => infer_instance) | (apply WO.lsa; exact rfl; (first | exact rfl | assumption | exact at_new | (apply at_old; assumption) | (apply at_put; first | assumption | (simp only [put_length]; assumption))); exact fun _ => rfl; (first | omega | (simp only [List.length_set]; omega) | (simp; omega)); decide; exact rfl; case ia => infer_instance) | (apply WO.sneq; exact rfl; exact rfl; all_goals first | (intro h; exact absurd h (by decide)) | (intro h; exact absurd rfl h) | (intro h; contradiction) | intro _) | (apply WO.hlv; exact rfl; exact rfl; exact rfl) | (apply WO.hpv; exact rfl; exact rfl; exact rfl) | (apply WO.hnv; exact rfl; exact rfl; exact rfl) | (apply WO.pl; exact rfl; exact rfl) | (apply WO.pp; exact rfl; exact rfl)
    exact h1 (by simp [firstNZ]) _ _
  | r + 1, i, hi, a1, lo, wr, h1, h2 => by
    have e := firstNZ_drop (l := l) (i := (i : Int).toNat) (by omega)
    rw [Int.toNat_natCast] at e
    refine W.loop ?_
    unfold b24_0
    repeat' first | apply W.seq | apply SQn | apply W.region | apply WO.nil | apply W.block | apply W.ret | apply W.exit | apply W.skip | apply SQr | apply SQe | apply BQn | apply BQr | apply BQe | (apply BQo; exact rfl) | apply LQe | apply LQr | (apply W.condT; exact rfl) | (apply W.condF; exact rfl) | (apply W.cond; exact rfl; all_goals intro _) | (apply WO.lss; exact rfl; exact rfl; all_goals first | (intro _; exfalso; omega) | intro _) | (apply WO.neq; exact rfl; exact rfl; all_goals first | (intro _; exfalso; omega) | intro _) | (apply WO.add; exact rfl; exact rfl; omega) | (apply WO.iav; exact rfl; exact rfl; omega) | (apply WO.ias; exact rfl; exact rfl; omega) | (apply WO.lda; exact rfl; exact fun _ => rfl; (first | omega | (simp only [List.length_set]; omega) | (simp; omega)); decide; exact rfl; case ia => infer_instance) | (apply WO.lsa; exact rfl; (first | exact rfl | assumption | exact at_new | (apply at_old; assumption) | (apply at_put; first | assumption | (simp only [put_length]; assumption))); exact fun _ => rfl; (first | omega | (simp only [List.length_set]; omega) | (simp; omega)); decide; exact rfl; case ia => infer_instance) | (apply WO.sneq; exact rfl; exact rfl; all_goals first | (intro h; exact absurd h (by decide)) | (intro h; exact absurd rfl h) | (intro h; contradiction) | intro _) | (apply WO.hlv; exact rfl; exact rfl; exact rfl) | (apply WO.hpv; exact rfl; exact rfl; exact rfl) | (apply WO.hnv; exact rfl; exact rfl; exact rfl) | (apply WO.pl; exact rfl; exact rfl) | (apply WO.pp; exact rfl; exact rfl)
    · rename_i hne
      rw [Int.toNat_natCast] at hne
      rw [if_neg hne] at e
      rw [e] at h2
      exact h2 _ _ _
    · rename_i he
      rw [Int.toNat_natCast] at he
      rw [if_pos he] at e
      rw [e] at h1 h2
      exact LQn (body24 l cap hl hp df r (i + 1) (by omega) _ _ _ h1 h2)
theorem w24 {T : List (Nat × Spec)} (hft : F = FT) (l : List Int) (cap : Option Nat) (hl : l.length < 4611686018427387904) : Run (mk0 T inv F) 24 [.vs (ints l) l.length cap] [] ⟨.int .i64 (firstNZ l), [], []⟩ := by
  refine run_of_W (show F 24 = _ from by rw [hft]; exact ft24) (by simp) ?_
  unfold b24
  simp only [List.map_cons, List.map_nil, List.getElem?_cons_zero, List.getElem?_cons_succ, List.getElem?_nil, Option.getD_some, Option.getD_none]
  repeat' first | apply W.seq | apply SQn | apply W.region | apply WO.nil | apply W.block | apply W.ret | apply W.exit | apply W.skip | apply SQr | apply SQe | apply BQn | apply BQr | apply BQe | (apply BQo; exact rfl) | apply LQe | apply LQr | (apply W.condT; exact rfl) | (apply W.condF; exact rfl) | (apply W.cond; exact rfl; all_goals intro _) | (apply WO.pl; exact rfl; exact rfl) | (apply WO.pp; exact rfl; exact rfl)
  refine body24 l cap hl _ _ l.length 0 (by omega) _ _ _ (fun h lo wr => ?_) (fun a2 lo wr => ?_)
  · repeat' first | apply W.seq | apply SQn | apply W.region | apply WO.nil | apply W.block | apply W.ret | apply W.exit | apply W.skip | apply SQr | apply SQe | apply BQn | apply BQr | apply BQe | (apply BQo; exact rfl) | apply LQe | apply LQr | (apply W.condT; exact rfl) | (apply W.condF; exact rfl) | (apply W.cond; exact rfl; all_goals intro _) | (apply WO.pl; exact rfl; exact rfl) | (apply WO.pp; exact rfl; exact rfl)
    exact ⟨.inr rfl, rfl, _, rfl, by rw [List.drop_zero] at h; rw [h]; rfl, rfl⟩
  · repeat' first | apply W.seq | apply SQn | apply W.region | apply WO.nil | apply W.block | apply W.ret | apply W.exit | apply W.skip | apply SQr | apply SQe | apply BQn | apply BQr | apply BQe | (apply BQo; exact rfl) | apply LQe | apply LQr | (apply W.condT; exact rfl) | (apply W.condF; exact rfl) | (apply W.cond; exact rfl; all_goals intro _) | (apply WO.pl; exact rfl; exact rfl) | (apply WO.pp; exact rfl; exact rfl)
    exact ⟨.inr rfl, rfl, _, rfl, rfl, rfl⟩
end Go.Ab.Ch1


/-
  Own work: the contracts of first and when as a table.
-/
namespace Go.Ab.Ch1
open Go.Proofs

theorem when97 : SpecOK Tryz.prog gl 97 specWhen := by
  intro xs h r hq
  unfold specWhen at hq
  split at hq
  · cases hq; exact ent_run0 seat tab_nil (w97 (T := []) rfl _ _) (FrL.same rfl) rfl (.inl rfl)
  · cases hq
theorem when25 : SpecOK Tryz.prog gl 25 specWhen := by
  intro xs h r hq
  unfold specWhen at hq
  split at hq
  · cases hq; exact ent_run0 seat tab_nil (w25 (T := []) rfl _ _) (FrL.same rfl) rfl (.inl rfl)
  · cases hq
theorem first_ok {f : Nat} (hw : ∀ (l : List Int) cap, l.length < 4611686018427387904 → Run (mach Tryz.prog FT []) f [.vs (ints l) l.length cap] [] ⟨.int .i64 (firstNZ l), [], []⟩) : SpecOK Tryz.prog gl f specFirst := by
  intro xs h r hq
  unfold specFirst at hq
  split at hq
  · split at hq
    · rename_i l hl
      split at hq
      · rename_i hlen
        cases hq
        obtain ⟨S, cap, hf⟩ := (intsAt_sl hl).fr (fun _ => rfl)
        exact ent_run0 seat tab_nil (hw l cap hlen) (.cons hf .nil) rfl (.inr rfl)
      · cases hq
    · cases hq
  · cases hq
theorem first96 : SpecOK Tryz.prog gl 96 specFirst := first_ok fun l cap h => w96 (T := []) rfl l cap h
theorem first24 : SpecOK Tryz.prog gl 24 specFirst := first_ok fun l cap h => w24 (T := []) rfl l cap h
end Go.Ab.Ch1


/-
  Own work: the resolved code of some functions of chapter 1: marks.
-/
namespace Go.Ab.Ch1
set_option maxRecDepth 1000000
/-- stadion/mark.CheckMark -/
def b36 : ICode :=
 .seq (.region [⟨(.p 1), .box 49 3 (.p 0), none⟩,
    ⟨(.p 2), .mv (.c (.int .i64 (0))), none⟩])
  (.seq (.seq (.region [⟨(.l 5), .faddr 0 (.p 1), none⟩,
      ⟨(.l 6), .load 1 false (.l 5), none⟩,
      ⟨(.l 7), .bin .eql (.l 6) (.c (.str [110, 111, 110, 101])), none⟩])
    (.cond (.l 7)
     (.seq (.draw [(⟨(.l 8), .faddr 2 (.p 1), none⟩, []),
        (⟨(.l 9), .load 1 false (.l 8), none⟩, []),
        (⟨(.l 10), .call (.c (.fn (.func 112) [] [])) [(.l 9)], none⟩, []),
        (⟨(.l 11), .un .not (.l 10), none⟩, []),
        (⟨(.l 12), .call (.c (.fn (.func 97) [] [])) [(.l 11), (.c (.int .i64 (1)))], none⟩, []),
        (⟨(.l 13), .faddr 1 (.p 1), none⟩, [0, 1, 2, 3, 4]),
        (⟨(.l 14), .load 1 false (.l 13), none⟩, [0, 1, 2, 3, 4]),
        (⟨(.l 15), .bin .neq (.l 14) (.c (.int .i64 (0))), none⟩, [0, 1, 2, 3, 4]),
        (⟨(.l 16), .call (.c (.fn (.func 97) [] [])) [(.l 15), (.c (.int .i64 (3)))], none⟩, []),
        (⟨(.l 17), .bslice 25 2 1 [.int .i64 (0)] [(0, 1, (.l 12)), (1, 1, (.l 16))], none⟩, []),
        (⟨(.l 18), .call (.c (.fn (.func 96) [] [])) [(.l 17)], none⟩, []),
        (⟨(.p 2), .mv (.l 18), none⟩, [])])
      (.ret))
     (.skip)))
   (.seq (.draw [(⟨(.l 20), .call (.c (.fn (.func 113) [] [])) [], none⟩, []),
      (⟨(.l 21), .faddr 0 (.p 1), none⟩, [0]),
      (⟨(.l 22), .load 1 false (.l 21), none⟩, [0]),
      (⟨(.l 23), .lookup .str (.agg [.int .i64 (0), .int .i64 (0), .bool false, .nilmap, .nilfn]) (.l 20) (.l 22) true, none⟩, []),
      (⟨(.l 19), .mv (.l 23), none⟩, []),
      (⟨(.l 24), .extract 0 (.l 19), none⟩, []),
      (⟨(.l 25), .extract 1 (.l 19), none⟩, [5]),
      (⟨(.p 3), .alloc 141 [.int .i64 (0), .int .i64 (0), .bool false, .nilmap, .nilfn], none⟩, [0, 1, 2, 3, 4, 5, 6]),
      (⟨.no, .store 5 (.p 3) (.l 24), none⟩, [6]),
      (⟨(.p 4), .mv (.l 25), none⟩, [])])
    (.seq (.draw [(⟨(.l 26), .mv (.p 4), none⟩, []),
       (⟨(.l 27), .un .not (.l 26), none⟩, []),
       (⟨(.l 28), .call (.c (.fn (.func 97) [] [])) [(.l 27), (.c (.int .i64 (13)))], none⟩, []),
       (⟨(.l 29), .faddr 2 (.p 1), none⟩, [0, 1, 2]),
       (⟨(.l 30), .load 1 false (.l 29), none⟩, [0, 1, 2]),
       (⟨(.l 31), .bin .neq (.l 30) (.c (.str [])), none⟩, [0, 1, 2]),
       (⟨(.l 32), .call (.c (.fn (.func 97) [] [])) [(.l 31), (.c (.int .i64 (1)))], none⟩, []),
       (⟨(.l 33), .faddr 1 (.p 1), none⟩, [0, 1, 2, 3, 4, 5, 6]),
       (⟨(.l 34), .load 1 false (.l 33), none⟩, [0, 1, 2, 3, 4, 5, 6]),
       (⟨(.l 35), .faddr 0 (.p 3), none⟩, [0, 1, 2, 3, 4, 5, 6, 7, 8]),
       (⟨(.l 36), .load 1 false (.l 35), none⟩, [0, 1, 2, 3, 4, 5, 6, 7, 8]),
       (⟨(.l 37), .faddr 1 (.p 3), none⟩, [0, 1, 2, 3, 4, 5, 6, 7, 8, 9, 10]),
       (⟨(.l 38), .load 1 false (.l 37), none⟩, [0, 1, 2, 3, 4, 5, 6, 7, 8, 9, 10]),
       (⟨(.l 39), .call (.c (.fn (.func 95) [] [])) [(.l 34), (.l 36), (.l 38)], none⟩, []),
       (⟨(.l 40), .call (.c (.fn (.func 97) [] [])) [(.l 39), (.c (.int .i64 (3)))], none⟩, []),
       (⟨(.l 41), .bslice 25 3 1 [.int .i64 (0)] [(0, 1, (.l 28)), (1, 1, (.l 32)), (2, 1, (.l 40))], none⟩, []),
       (⟨(.l 42), .call (.c (.fn (.func 96) [] [])) [(.l 41)], none⟩, []),
       (⟨(.p 2), .mv (.l 42), none⟩, [])])
     (.ret))))
theorem ft36 : FT 36 = some ⟨43, [0, 1, 2, 3, 4], [.var (.p 2)], b36⟩ := by kernel_rfl

/-- stadion/mark.kinds -/
def b113 : ICode :=
 .seq (.region [⟨(.p 0), .mv (.c (.nilmap)), none⟩])
  (.seq (.region [⟨(.l 1), .mkmap, none⟩,
     ⟨(.l 2), .mkmap, none⟩,
     ⟨.no, .mapset .str (.l 2) (.c (.str [101, 120, 97, 99, 116])) (.c (.int .i64 (1))), none⟩,
     ⟨.no, .mapset .str (.l 2) (.c (.str [104, 117, 110, 100, 114, 101, 100, 116, 104, 115])) (.c (.int .i64 (100))), none⟩,
     ⟨.no, .mapset .str (.l 2) (.c (.str [116, 101, 110, 116, 104, 115])) (.c (.int .i64 (1000))), none⟩,
     ⟨(.l 3), .mv (.l 2), none⟩,
     ⟨(.l 4), .build [.int .i64 (0), .int .i64 (0), .bool false, .nilmap, .nilfn] [(0, 1, (.c (.int .i64 (1)))), (1, 1, (.c (.int .i64 (863999999)))), (2, 1, (.c (.bool false))), (3, 1, (.l 3)), (4, 1, (.c (.fn (.func 180) [] [])))], none⟩,
     ⟨.no, .mapset .str (.l 1) (.c (.str [116, 105, 109, 101])) (.l 4), none⟩,
     ⟨(.l 5), .mkmap, none⟩,
     ⟨.no, .mapset .str (.l 5) (.c (.str [101, 120, 97, 99, 116])) (.c (.int .i64 (1))), none⟩,
     ⟨.no, .mapset .str (.l 5) (.c (.str [99, 101, 110, 116, 105, 109, 101, 116, 114, 101, 115])) (.c (.int .i64 (10))), none⟩,
     ⟨(.l 6), .mv (.l 5), none⟩,
     ⟨(.l 7), .build [.int .i64 (0), .int .i64 (0), .bool false, .nilmap, .nilfn] [(0, 1, (.c (.int .i64 (0)))), (1, 1, (.c (.int .i64 (999999)))), (2, 1, (.c (.bool true))), (3, 1, (.l 6)), (4, 1, (.c (.fn (.func 181) [] [])))], none⟩,
     ⟨.no, .mapset .str (.l 1) (.c (.str [108, 101, 110, 103, 116, 104])) (.l 7), none⟩,
     ⟨(.l 8), .mkmap, none⟩,
     ⟨.no, .mapset .str (.l 8) (.c (.str [101, 120, 97, 99, 116])) (.c (.int .i64 (1))), none⟩,
     ⟨(.l 9), .mv (.l 8), none⟩,
     ⟨(.l 10), .build [.int .i64 (0), .int .i64 (0), .bool false, .nilmap, .nilfn] [(0, 1, (.c (.int .i64 (0)))), (1, 1, (.c (.int .i64 (99999)))), (2, 1, (.c (.bool true))), (3, 1, (.l 9)), (4, 1, (.c (.fn (.func 182) [] [])))], none⟩,
     ⟨.no, .mapset .str (.l 1) (.c (.str [112, 111, 105, 110, 116, 115])) (.l 10), none⟩,
     ⟨(.l 11), .mv (.l 1), none⟩,
     ⟨(.p 0), .mv (.l 11), none⟩])
   (.ret))
theorem ft113 : FT 113 = some ⟨12, [0], [.var (.p 0)], b113⟩ := by kernel_rfl

/-- stadion/mark.isReason -/
def b112 : ICode :=
 .seq (.region [⟨(.p 1), .mv (.c (.bool false)), none⟩])
  (.seq (.region [⟨(.l 3), .bslice 9 4 1 [.str []] [(0, 1, (.c (.str [68, 78, 83]))), (1, 1, (.c (.str [68, 78, 70]))), (2, 1, (.c (.str [68, 81]))), (3, 1, (.c (.str [78, 77])))], none⟩,
     ⟨(.l 4), .mv (.p 0), none⟩,
     ⟨(.l 5), .call (.c (.fn (.func 116) [] [])) [(.l 3), (.l 4)], none⟩,
     ⟨(.p 1), .mv (.l 5), none⟩])
   (.ret))
theorem ft112 : FT 112 = some ⟨6, [0, 2], [.var (.p 1)], b112⟩ := by kernel_rfl

/-- stadion/mark.worth -/
def b184 : ICode :=
 .seq (.region [⟨(.p 1), .box 49 3 (.p 0), none⟩,
    ⟨(.p 2), .mv (.c (.int .i64 (0))), none⟩])
  (.seq (.draw [(⟨(.l 6), .call (.c (.fn (.func 113) [] [])) [], none⟩, []),
     (⟨(.l 7), .faddr 0 (.p 1), none⟩, [0]),
     (⟨(.l 8), .load 1 false (.l 7), none⟩, [0]),
     (⟨(.l 9), .lookup .str (.agg [.int .i64 (0), .int .i64 (0), .bool false, .nilmap, .nilfn]) (.l 6) (.l 8) true, none⟩, []),
     (⟨(.l 5), .mv (.l 9), none⟩, []),
     (⟨(.l 10), .extract 0 (.l 5), none⟩, []),
     (⟨(.l 11), .extract 1 (.l 5), none⟩, [5]),
     (⟨(.p 3), .alloc 141 [.int .i64 (0), .int .i64 (0), .bool false, .nilmap, .nilfn], none⟩, [0, 1, 2, 3, 4, 5, 6]),
     (⟨.no, .store 5 (.p 3) (.l 10), none⟩, [6]),
     (⟨(.p 4), .mv (.l 11), none⟩, [])])
   (.seq (.block 0
     (.seq (.region [⟨(.l 13), .mv (.p 4), none⟩,
        ⟨(.l 14), .un .not (.l 13), none⟩,
        ⟨(.l 12), .mv (.l 14), none⟩])
      (.cond (.l 12)
       (.seq (.region [⟨(.p 2), .mv (.c (.int .i64 (-864000000))), none⟩])
        (.ret))
       (.seq (.region [⟨(.l 16), .faddr 2 (.p 3), none⟩,
          ⟨(.l 17), .load 1 false (.l 16), none⟩,
          ⟨(.l 15), .mv (.l 17), none⟩])
        (.cond (.l 15)
         (.seq (.region [⟨(.l 18), .faddr 1 (.p 1), none⟩,
            ⟨(.l 19), .load 1 false (.l 18), none⟩,
            ⟨(.p 2), .mv (.l 19), none⟩])
          (.ret))
         (.skip))))))
    (.seq (.region [⟨(.l 20), .faddr 1 (.p 1), none⟩,
       ⟨(.l 21), .load 1 false (.l 20), none⟩,
       ⟨(.l 22), .un .neg (.l 21), none⟩,
       ⟨(.p 2), .mv (.l 22), none⟩])
     (.ret))))
theorem ft184 : FT 184 = some ⟨23, [0, 1, 2, 3, 4], [.var (.p 2)], b184⟩ := by kernel_rfl

/-- stadion/mark.compare -/
def b115 : ICode :=
 .seq (.region [⟨(.p 2), .box 49 3 (.p 0), none⟩,
    ⟨(.p 3), .box 49 3 (.p 1), none⟩,
    ⟨(.p 4), .mv (.c (.int .i64 (0))), none⟩])
  (.seq (.draw [(⟨(.l 7), .load 3 true (.p 2), none⟩, []),
     (⟨(.l 8), .call (.c (.fn (.func 184) [] [])) [(.l 7)], none⟩, []),
     (⟨(.l 9), .load 3 true (.p 3), none⟩, [0, 1]),
     (⟨(.l 10), .call (.c (.fn (.func 184) [] [])) [(.l 9)], none⟩, []),
     (⟨(.p 5), .mv (.l 8), none⟩, []),
     (⟨(.p 6), .mv (.l 10), none⟩, [])])
   (.seq (.block 0
     (.seq (.region [⟨(.l 12), .mv (.p 5), none⟩,
        ⟨(.l 13), .mv (.p 6), none⟩,
        ⟨(.l 14), .bin .gtr (.l 12) (.l 13), none⟩,
        ⟨(.l 11), .mv (.l 14), none⟩])
      (.cond (.l 11)
       (.seq (.region [⟨(.p 4), .mv (.c (.int .i64 (-1))), none⟩])
        (.ret))
       (.seq (.region [⟨(.l 16), .mv (.p 5), none⟩,
          ⟨(.l 17), .mv (.p 6), none⟩,
          ⟨(.l 18), .bin .lss (.l 16) (.l 17), none⟩,
          ⟨(.l 15), .mv (.l 18), none⟩])
        (.cond (.l 15)
         (.seq (.region [⟨(.p 4), .mv (.c (.int .i64 (1))), none⟩])
          (.ret))
         (.skip))))))
    (.seq (.region [⟨(.p 4), .mv (.c (.int .i64 (0))), none⟩])
     (.ret))))
theorem ft115 : FT 115 = some ⟨19, [0, 1, 2, 3, 4, 5, 6], [.var (.p 4)], b115⟩ := by kernel_rfl

/-- stadion/mark.differ -/
def b114 : ICode :=
 .seq (.region [⟨(.p 2), .box 49 3 (.p 0), none⟩,
    ⟨(.p 3), .box 49 3 (.p 1), none⟩,
    ⟨(.p 4), .mv (.c (.bool false)), none⟩])
  (.seq (.region [⟨(.l 5), .faddr 0 (.p 2), none⟩,
     ⟨(.l 6), .load 1 false (.l 5), none⟩,
     ⟨(.l 7), .faddr 0 (.p 3), none⟩,
     ⟨(.l 8), .load 1 false (.l 7), none⟩,
     ⟨(.l 9), .bin .neq (.l 6) (.l 8), none⟩,
     ⟨(.l 10), .mv (.l 9), none⟩,
     ⟨(.l 11), .faddr 0 (.p 2), some ((.l 10), true)⟩,
     ⟨(.l 12), .load 1 false (.l 11), some ((.l 10), true)⟩,
     ⟨(.l 13), .bin .neq (.l 12) (.c (.str [110, 111, 110, 101])), some ((.l 10), true)⟩,
     ⟨(.l 14), .pick (.l 10) (.l 13) (.c (.bool false)), none⟩,
     ⟨(.l 15), .mv (.l 14), none⟩,
     ⟨(.l 16), .faddr 0 (.p 3), some ((.l 15), true)⟩,
     ⟨(.l 17), .load 1 false (.l 16), some ((.l 15), true)⟩,
     ⟨(.l 18), .bin .neq (.l 17) (.c (.str [110, 111, 110, 101])), some ((.l 15), true)⟩,
     ⟨(.l 19), .pick (.l 15) (.l 18) (.c (.bool false)), none⟩,
     ⟨(.p 4), .mv (.l 19), none⟩])
   (.ret))
theorem ft114 : FT 114 = some ⟨20, [0, 1, 2, 3, 4], [.var (.p 4)], b114⟩ := by kernel_rfl

/-- stadion/mark.Compare -/
def b37 : ICode :=
 .seq (.region [⟨(.p 2), .box 49 3 (.p 0), none⟩,
    ⟨(.p 3), .box 49 3 (.p 1), none⟩,
    ⟨(.p 4), .mv (.c (.int .i64 (0))), none⟩,
    ⟨(.p 5), .mv (.c (.int .i64 (0))), none⟩])
  (.seq (.seq (.draw [(⟨(.l 7), .load 3 true (.p 2), none⟩, []),
      (⟨(.l 8), .call (.c (.fn (.func 36) [] [])) [(.l 7)], none⟩, []),
      (⟨(.l 9), .load 3 true (.p 3), none⟩, [0, 1]),
      (⟨(.l 10), .call (.c (.fn (.func 36) [] [])) [(.l 9)], none⟩, []),
      (⟨(.l 11), .load 3 true (.p 2), none⟩, [0, 1, 2, 3]),
      (⟨(.l 12), .load 3 true (.p 3), none⟩, [0, 1, 2, 3, 4]),
      (⟨(.l 13), .call (.c (.fn (.func 114) [] [])) [(.l 11), (.l 12)], none⟩, []),
      (⟨(.l 14), .call (.c (.fn (.func 97) [] [])) [(.l 13), (.c (.int .i64 (13)))], none⟩, []),
      (⟨(.l 15), .bslice 25 3 1 [.int .i64 (0)] [(0, 1, (.l 8)), (1, 1, (.l 10)), (2, 1, (.l 14))], none⟩, []),
      (⟨(.l 16), .call (.c (.fn (.func 96) [] [])) [(.l 15)], none⟩, []),
      (⟨(.p 6), .mv (.l 16), none⟩, [])])
    (.seq (.region [⟨(.l 17), .mv (.p 6), none⟩,
       ⟨(.l 18), .bin .neq (.l 17) (.c (.int .i64 (0))), none⟩])
     (.cond (.l 18)
      (.seq (.region [⟨(.l 19), .mv (.p 6), none⟩,
         ⟨(.p 4), .mv (.c (.int .i64 (0))), none⟩,
         ⟨(.p 5), .mv (.l 19), none⟩])
       (.ret))
      (.skip))))
   (.seq (.region [⟨(.l 20), .load 3 true (.p 2), none⟩,
      ⟨(.l 21), .load 3 true (.p 3), none⟩,
      ⟨(.l 22), .call (.c (.fn (.func 115) [] [])) [(.l 20), (.l 21)], none⟩,
      ⟨(.p 4), .mv (.l 22), none⟩,
      ⟨(.p 5), .mv (.c (.int .i64 (0))), none⟩])
    (.ret)))
theorem ft37 : FT 37 = some ⟨23, [0, 1, 2, 3, 4, 5, 6], [.var (.p 4), .var (.p 5)], b37⟩ := by kernel_rfl

/-- stadion/mark.Round -/
def b40 : ICode :=
 .seq (.region [⟨(.p 2), .box 49 3 (.p 0), none⟩,
    ⟨(.p 3), .alloc 49 [.str [], .int .i64 (0), .str []], none⟩,
    ⟨(.p 4), .mv (.c (.int .i64 (0))), none⟩])
  (.seq (.seq (.region [⟨(.l 11), .load 3 true (.p 2), none⟩,
      ⟨(.l 12), .call (.c (.fn (.func 36) [] [])) [(.l 11)], none⟩,
      ⟨(.p 5), .mv (.l 12), none⟩])
    (.seq (.region [⟨(.l 13), .mv (.p 5), none⟩,
       ⟨(.l 14), .bin .neq (.l 13) (.c (.int .i64 (0))), none⟩])
     (.cond (.l 14)
      (.seq (.region [⟨(.l 15), .build [.str [], .int .i64 (0), .str []] [], none⟩,
         ⟨(.l 16), .mv (.p 5), none⟩,
         ⟨.no, .store 3 (.p 3) (.l 15), none⟩,
         ⟨(.p 4), .mv (.l 16), none⟩])
       (.ret))
      (.skip))))
   (.seq (.seq (.region [⟨(.l 17), .faddr 0 (.p 2), none⟩,
       ⟨(.l 18), .load 1 false (.l 17), none⟩,
       ⟨(.l 19), .bin .eql (.l 18) (.c (.str [110, 111, 110, 101])), none⟩])
     (.cond (.l 19)
      (.seq (.region [⟨(.l 20), .bslice 9 4 1 [.str []] [(0, 1, (.c (.str [101, 120, 97, 99, 116]))), (1, 1, (.c (.str [104, 117, 110, 100, 114, 101, 100, 116, 104, 115]))), (2, 1, (.c (.str [116, 101, 110, 116, 104, 115]))), (3, 1, (.c (.str [99, 101, 110, 116, 105, 109, 101, 116, 114, 101, 115])))], none⟩,
         ⟨(.l 21), .mv (.p 1), none⟩,
         ⟨(.l 22), .call (.c (.fn (.func 116) [] [])) [(.l 20), (.l 21)], none⟩,
         ⟨(.p 6), .mv (.l 22), none⟩])
       (.seq (.seq (.region [⟨(.l 23), .mv (.p 6), none⟩,
           ⟨(.l 24), .un .not (.l 23), none⟩])
         (.cond (.l 24)
          (.seq (.region [⟨(.l 25), .build [.str [], .int .i64 (0), .str []] [], none⟩,
             ⟨.no, .store 3 (.p 3) (.l 25), none⟩,
             ⟨(.p 4), .mv (.c (.int .i64 (13))), none⟩])
           (.ret))
          (.skip)))
        (.seq (.region [⟨(.l 26), .load 3 true (.p 2), none⟩,
           ⟨.no, .store 3 (.p 3) (.l 26), none⟩,
           ⟨(.p 4), .mv (.c (.int .i64 (0))), none⟩])
         (.ret))))
      (.skip)))
    (.seq (.draw [(⟨(.l 27), .call (.c (.fn (.func 113) [] [])) [], none⟩, []),
       (⟨(.l 28), .faddr 0 (.p 2), none⟩, [0]),
       (⟨(.l 29), .load 1 false (.l 28), none⟩, [0]),
       (⟨(.l 30), .lookup .str (.agg [.int .i64 (0), .int .i64 (0), .bool false, .nilmap, .nilfn]) (.l 27) (.l 29) false, none⟩, []),
       (⟨(.p 7), .alloc 141 [.int .i64 (0), .int .i64 (0), .bool false, .nilmap, .nilfn], none⟩, [0, 1, 2, 3]),
       (⟨.no, .store 5 (.p 7) (.l 30), none⟩, [])])
     (.seq (.region [⟨(.l 32), .faddr 3 (.p 7), none⟩,
        ⟨(.l 33), .load 1 false (.l 32), none⟩,
        ⟨(.l 34), .mv (.p 1), none⟩,
        ⟨(.l 35), .lookup .str (.int .i64 (0)) (.l 33) (.l 34) true, none⟩,
        ⟨(.l 31), .mv (.l 35), none⟩,
        ⟨(.l 36), .extract 0 (.l 31), none⟩,
        ⟨(.l 37), .extract 1 (.l 31), none⟩,
        ⟨(.p 8), .mv (.l 36), none⟩,
        ⟨(.p 9), .mv (.l 37), none⟩])
      (.seq (.seq (.region [⟨(.l 38), .mv (.p 9), none⟩,
          ⟨(.l 39), .un .not (.l 38), none⟩])
        (.cond (.l 39)
         (.seq (.region [⟨(.l 40), .build [.str [], .int .i64 (0), .str []] [], none⟩,
            ⟨.no, .store 3 (.p 3) (.l 40), none⟩,
            ⟨(.p 4), .mv (.c (.int .i64 (13))), none⟩])
          (.ret))
         (.skip)))
       (.seq (.seq (.region [⟨(.l 41), .faddr 2 (.p 7), none⟩,
           ⟨(.l 42), .load 1 false (.l 41), none⟩,
           ⟨(.l 43), .un .not (.l 42), none⟩])
         (.cond (.l 43)
          (.region [⟨(.l 44), .faddr 1 (.p 2), none⟩,
            ⟨(.l 45), .load 1 false (.l 44), none⟩,
            ⟨(.l 46), .mv (.p 8), none⟩,
            ⟨(.l 47), .bin .sub (.l 46) (.c (.int .i64 (1))), none⟩,
            ⟨(.l 48), .bin .add (.l 45) (.l 47), none⟩,
            ⟨(.l 49), .faddr 1 (.p 2), none⟩,
            ⟨.no, .store 1 (.l 49) (.l 48), none⟩])
          (.skip)))
        (.seq (.draw [(⟨(.l 50), .faddr 1 (.p 2), none⟩, []),
           (⟨(.l 51), .load 1 false (.l 50), none⟩, []),
           (⟨(.l 52), .faddr 1 (.p 2), none⟩, [0, 1]),
           (⟨(.l 53), .load 1 false (.l 52), none⟩, [0, 1]),
           (⟨(.l 54), .mv (.p 8), none⟩, [0, 1, 2, 3]),
           (⟨(.l 55), .bin .rem (.l 53) (.l 54), none⟩, [0, 1]),
           (⟨(.l 56), .bin .sub (.l 51) (.l 55), none⟩, []),
           (⟨(.l 57), .faddr 1 (.p 2), none⟩, []),
           (⟨.no, .store 1 (.l 57) (.l 56), none⟩, [])])
         (.seq (.seq (.region [⟨(.l 58), .faddr 1 (.p 2), none⟩,
             ⟨(.l 59), .load 1 false (.l 58), none⟩,
             ⟨(.l 60), .faddr 1 (.p 7), none⟩,
             ⟨(.l 61), .load 1 false (.l 60), none⟩,
             ⟨(.l 62), .bin .gtr (.l 59) (.l 61), none⟩])
           (.cond (.l 62)
            (.seq (.region [⟨(.l 63), .build [.str [], .int .i64 (0), .str []] [], none⟩,
               ⟨.no, .store 3 (.p 3) (.l 63), none⟩,
               ⟨(.p 4), .mv (.c (.int .i64 (4))), none⟩])
             (.ret))
            (.skip)))
          (.seq (.region [⟨(.l 64), .load 3 true (.p 2), none⟩,
             ⟨.no, .store 3 (.p 3) (.l 64), none⟩,
             ⟨(.p 4), .mv (.c (.int .i64 (0))), none⟩])
           (.ret))))))))))
theorem ft40 : FT 40 = some ⟨65, [0, 1, 2, 4, 5, 6, 7, 8, 9, 10], [.cell 3 true (.p 3), .var (.p 4)], b40⟩ := by kernel_rfl

/-- stadion/mark.Wind -/
def b42 : ICode :=
 .seq (.region [⟨(.p 1), .mv (.c (.int .i64 (0))), none⟩,
    ⟨(.p 2), .mv (.c (.int .i64 (0))), none⟩])
  (.seq (.seq (.region [⟨(.l 5), .mv (.p 0), none⟩,
      ⟨(.l 6), .call (.c (.fn (.func 95) [] [])) [(.l 5), (.c (.int .i64 (-9999))), (.c (.int .i64 (9999)))], none⟩])
    (.cond (.l 6)
     (.seq (.region [⟨(.p 1), .mv (.c (.int .i64 (0))), none⟩,
        ⟨(.p 2), .mv (.c (.int .i64 (3))), none⟩])
      (.ret))
     (.skip)))
   (.seq (.region [⟨(.l 7), .mv (.p 0), none⟩,
      ⟨(.l 8), .bin .quo (.l 7) (.c (.int .i64 (10))), none⟩,
      ⟨(.p 3), .mv (.l 8), none⟩])
    (.seq (.seq (.region [⟨(.l 9), .mv (.p 0), none⟩,
        ⟨(.l 10), .bin .gtr (.l 9) (.c (.int .i64 (0))), none⟩,
        ⟨(.l 11), .mv (.l 10), none⟩,
        ⟨(.l 12), .mv (.p 0), some ((.l 11), true)⟩,
        ⟨(.l 13), .bin .rem (.l 12) (.c (.int .i64 (10))), some ((.l 11), true)⟩,
        ⟨(.l 14), .bin .neq (.l 13) (.c (.int .i64 (0))), some ((.l 11), true)⟩,
        ⟨(.l 15), .pick (.l 11) (.l 14) (.c (.bool false)), none⟩])
      (.cond (.l 15)
       (.region [⟨(.l 16), .mv (.p 3), none⟩,
         ⟨(.l 17), .bin .add (.l 16) (.c (.int .i64 (1))), none⟩,
         ⟨(.p 3), .mv (.l 17), none⟩])
       (.skip)))
     (.seq (.region [⟨(.l 18), .mv (.p 3), none⟩,
        ⟨(.p 1), .mv (.l 18), none⟩,
        ⟨(.p 2), .mv (.c (.int .i64 (0))), none⟩])
      (.ret)))))
theorem ft42 : FT 42 = some ⟨19, [0, 2, 3, 4], [.var (.p 1), .var (.p 2)], b42⟩ := by kernel_rfl

/-- stadion/stadionref01.IsReason -/
def b109 : ICode :=
 .seq (.region [⟨(.p 1), .mv (.c (.bool false)), none⟩])
  (.seq (.region [⟨(.l 3), .mv (.p 0), none⟩,
     ⟨(.l 4), .bin .eql (.l 3) (.c (.str [68, 78, 83])), none⟩,
     ⟨(.l 5), .mv (.l 4), none⟩,
     ⟨(.l 6), .mv (.p 0), some ((.l 5), false)⟩,
     ⟨(.l 7), .bin .eql (.l 6) (.c (.str [68, 78, 70])), some ((.l 5), false)⟩,
     ⟨(.l 8), .pick (.l 5) (.c (.bool true)) (.l 7), none⟩,
     ⟨(.l 9), .mv (.l 8), none⟩,
     ⟨(.l 10), .mv (.p 0), some ((.l 9), false)⟩,
     ⟨(.l 11), .bin .eql (.l 10) (.c (.str [68, 81])), some ((.l 9), false)⟩,
     ⟨(.l 12), .pick (.l 9) (.c (.bool true)) (.l 11), none⟩,
     ⟨(.l 13), .mv (.l 12), none⟩,
     ⟨(.l 14), .mv (.p 0), some ((.l 13), false)⟩,
     ⟨(.l 15), .bin .eql (.l 14) (.c (.str [78, 77])), some ((.l 13), false)⟩,
     ⟨(.l 16), .pick (.l 13) (.c (.bool true)) (.l 15), none⟩,
     ⟨(.p 1), .mv (.l 16), none⟩])
   (.ret))
theorem ft109 : FT 109 = some ⟨17, [0, 2], [.var (.p 1)], b109⟩ := by kernel_rfl

/-- stadion/stadionref01.least -/
def b110 : ICode :=
 .seq (.region [⟨(.p 1), .mv (.c (.int .i64 (0))), none⟩])
  (.seq (.seq (.region [⟨(.l 3), .mv (.p 0), none⟩,
      ⟨(.l 4), .bin .eql (.l 3) (.c (.str [116, 105, 109, 101])), none⟩])
    (.cond (.l 4)
     (.seq (.region [⟨(.p 1), .mv (.c (.int .i64 (1))), none⟩])
      (.ret))
     (.skip)))
   (.seq (.region [⟨(.p 1), .mv (.c (.int .i64 (0))), none⟩])
    (.ret)))
theorem ft110 : FT 110 = some ⟨5, [0, 2], [.var (.p 1)], b110⟩ := by kernel_rfl

/-- stadion/stadionref01.most -/
def b111 : ICode :=
 .seq (.region [⟨(.p 1), .mv (.c (.int .i64 (0))), none⟩])
  (.seq (.seq (.region [⟨(.p 2), .mv (.p 0), none⟩])
    (.block 0
     (.seq (.region [⟨(.l 5), .bin .eql (.p 2) (.c (.str [116, 105, 109, 101])), none⟩,
        ⟨(.l 4), .mv (.l 5), none⟩])
      (.cond (.l 4)
       (.seq (.region [⟨(.p 1), .mv (.c (.int .i64 (863999999))), none⟩])
        (.ret))
       (.seq (.region [⟨(.l 7), .bin .eql (.p 2) (.c (.str [108, 101, 110, 103, 116, 104])), none⟩,
          ⟨(.l 6), .mv (.l 7), none⟩])
        (.cond (.l 6)
         (.seq (.region [⟨(.p 1), .mv (.c (.int .i64 (999999))), none⟩])
          (.ret))
         (.skip)))))))
   (.seq (.region [⟨(.p 1), .mv (.c (.int .i64 (99999))), none⟩])
    (.ret)))
theorem ft111 : FT 111 = some ⟨8, [0, 2, 3], [.var (.p 1)], b111⟩ := by kernel_rfl

/-- stadion/stadionref01.CheckMark -/
def b35 : ICode :=
 .seq (.region [⟨(.p 1), .box 49 3 (.p 0), none⟩,
    ⟨(.p 2), .mv (.c (.int .i64 (0))), none⟩])
  (.seq (.seq (.region [⟨(.l 3), .faddr 0 (.p 1), none⟩,
      ⟨(.p 3), .load 1 false (.l 3), none⟩])
    (.block 0
     (.seq (.region [⟨(.l 6), .bin .eql (.p 3) (.c (.str [110, 111, 110, 101])), none⟩,
        ⟨(.l 5), .mv (.l 6), none⟩])
      (.cond (.l 5)
       (.seq (.seq (.region [⟨(.l 7), .faddr 2 (.p 1), none⟩,
           ⟨(.l 8), .load 1 false (.l 7), none⟩,
           ⟨(.l 9), .call (.c (.fn (.func 109) [] [])) [(.l 8)], none⟩,
           ⟨(.l 10), .un .not (.l 9), none⟩])
         (.cond (.l 10)
          (.seq (.region [⟨(.p 2), .mv (.c (.int .i64 (1))), none⟩])
           (.ret))
          (.skip)))
        (.seq (.seq (.region [⟨(.l 11), .faddr 1 (.p 1), none⟩,
            ⟨(.l 12), .load 1 false (.l 11), none⟩,
            ⟨(.l 13), .bin .neq (.l 12) (.c (.int .i64 (0))), none⟩])
          (.cond (.l 13)
           (.seq (.region [⟨(.p 2), .mv (.c (.int .i64 (3))), none⟩])
            (.ret))
           (.skip)))
         (.seq (.region [⟨(.p 2), .mv (.c (.int .i64 (0))), none⟩])
          (.ret))))
       (.seq (.seq (.region [⟨(.l 15), .bin .eql (.p 3) (.c (.str [116, 105, 109, 101])), none⟩,
           ⟨(.p 4), .mv (.l 15), none⟩])
         (.cond (.p 4)
          (.skip)
          (.seq (.region [⟨(.l 16), .bin .eql (.p 3) (.c (.str [108, 101, 110, 103, 116, 104])), none⟩,
             ⟨(.p 4), .mv (.l 16), none⟩])
           (.cond (.p 4)
            (.skip)
            (.region [⟨(.l 17), .bin .eql (.p 3) (.c (.str [112, 111, 105, 110, 116, 115])), none⟩,
              ⟨(.p 4), .mv (.l 17), none⟩])))))
        (.cond (.p 4)
         (.seq (.seq (.region [⟨(.l 18), .faddr 2 (.p 1), none⟩,
             ⟨(.l 19), .load 1 false (.l 18), none⟩,
             ⟨(.l 20), .bin .neq (.l 19) (.c (.str [])), none⟩])
           (.cond (.l 20)
            (.seq (.region [⟨(.p 2), .mv (.c (.int .i64 (1))), none⟩])
             (.ret))
            (.skip)))
          (.seq (.seq (.draw [(⟨(.l 21), .faddr 1 (.p 1), none⟩, []),
              (⟨(.l 22), .load 1 false (.l 21), none⟩, []),
              (⟨(.l 23), .faddr 0 (.p 1), none⟩, [0, 1]),
              (⟨(.l 24), .load 1 false (.l 23), none⟩, [0, 1]),
              (⟨(.l 25), .call (.c (.fn (.func 110) [] [])) [(.l 24)], none⟩, [0, 1]),
              (⟨(.l 26), .bin .lss (.l 22) (.l 25), none⟩, []),
              (⟨(.l 27), .mv (.l 26), none⟩, []),
              (⟨(.l 28), .faddr 1 (.p 1), some ((.l 27), false)⟩, []),
              (⟨(.l 29), .load 1 false (.l 28), some ((.l 27), false)⟩, []),
              (⟨(.l 30), .faddr 0 (.p 1), some ((.l 27), false)⟩, [7, 8]),
              (⟨(.l 31), .load 1 false (.l 30), some ((.l 27), false)⟩, [7, 8]),
              (⟨(.l 32), .call (.c (.fn (.func 111) [] [])) [(.l 31)], some ((.l 27), false)⟩, [7, 8]),
              (⟨(.l 33), .bin .gtr (.l 29) (.l 32), some ((.l 27), false)⟩, []),
              (⟨(.l 34), .pick (.l 27) (.c (.bool true)) (.l 33), none⟩, [])])
            (.cond (.l 34)
             (.seq (.region [⟨(.p 2), .mv (.c (.int .i64 (3))), none⟩])
              (.ret))
             (.skip)))
           (.seq (.region [⟨(.p 2), .mv (.c (.int .i64 (0))), none⟩])
            (.ret))))
         (.skip)))))))
   (.seq (.region [⟨(.p 2), .mv (.c (.int .i64 (13))), none⟩])
    (.ret)))
theorem ft35 : FT 35 = some ⟨35, [0, 1, 2, 4, 14], [.var (.p 2)], b35⟩ := by kernel_rfl

/-- stadion/stadionref01.Compare -/
def b39 : ICode :=
 .seq (.region [⟨(.p 2), .box 49 3 (.p 0), none⟩,
    ⟨(.p 3), .box 49 3 (.p 1), none⟩,
    ⟨(.p 4), .mv (.c (.int .i64 (0))), none⟩])
  (.seq (.seq (.region [⟨(.l 7), .faddr 0 (.p 2), none⟩,
      ⟨(.l 8), .load 1 false (.l 7), none⟩,
      ⟨(.l 9), .bin .eql (.l 8) (.c (.str [110, 111, 110, 101])), none⟩,
      ⟨(.l 10), .mv (.l 9), none⟩,
      ⟨(.l 11), .faddr 0 (.p 3), some ((.l 10), false)⟩,
      ⟨(.l 12), .load 1 false (.l 11), some ((.l 10), false)⟩,
      ⟨(.l 13), .bin .eql (.l 12) (.c (.str [110, 111, 110, 101])), some ((.l 10), false)⟩,
      ⟨(.l 14), .pick (.l 10) (.c (.bool true)) (.l 13), none⟩])
    (.cond (.l 14)
     (.seq (.seq (.region [⟨(.l 15), .faddr 0 (.p 2), none⟩,
         ⟨(.l 16), .load 1 false (.l 15), none⟩,
         ⟨(.l 17), .faddr 0 (.p 3), none⟩,
         ⟨(.l 18), .load 1 false (.l 17), none⟩,
         ⟨(.l 19), .bin .eql (.l 16) (.l 18), none⟩])
       (.cond (.l 19)
        (.seq (.region [⟨(.p 4), .mv (.c (.int .i64 (0))), none⟩])
         (.ret))
        (.skip)))
      (.seq (.seq (.region [⟨(.l 20), .faddr 0 (.p 3), none⟩,
          ⟨(.l 21), .load 1 false (.l 20), none⟩,
          ⟨(.l 22), .bin .eql (.l 21) (.c (.str [110, 111, 110, 101])), none⟩])
        (.cond (.l 22)
         (.seq (.region [⟨(.p 4), .mv (.c (.int .i64 (-1))), none⟩])
          (.ret))
         (.skip)))
       (.seq (.region [⟨(.p 4), .mv (.c (.int .i64 (1))), none⟩])
        (.ret))))
     (.skip)))
   (.seq (.draw [(⟨(.l 23), .faddr 1 (.p 2), none⟩, []),
      (⟨(.l 24), .load 1 false (.l 23), none⟩, []),
      (⟨(.l 25), .faddr 1 (.p 3), none⟩, [0, 1]),
      (⟨(.l 26), .load 1 false (.l 25), none⟩, [0, 1]),
      (⟨(.p 5), .mv (.l 24), none⟩, [2, 3]),
      (⟨(.p 6), .mv (.l 26), none⟩, [])])
    (.seq (.seq (.region [⟨(.l 27), .faddr 0 (.p 2), none⟩,
        ⟨(.l 28), .load 1 false (.l 27), none⟩,
        ⟨(.l 29), .bin .eql (.l 28) (.c (.str [116, 105, 109, 101])), none⟩])
      (.cond (.l 29)
       (.region [⟨(.l 30), .mv (.p 6), none⟩,
         ⟨(.l 31), .mv (.p 5), none⟩,
         ⟨(.p 5), .mv (.l 30), none⟩,
         ⟨(.p 6), .mv (.l 31), none⟩])
       (.skip)))
     (.seq (.seq (.region [⟨(.l 32), .mv (.p 5), none⟩,
         ⟨(.l 33), .mv (.p 6), none⟩,
         ⟨(.l 34), .bin .gtr (.l 32) (.l 33), none⟩])
       (.cond (.l 34)
        (.seq (.region [⟨(.p 4), .mv (.c (.int .i64 (-1))), none⟩])
         (.ret))
        (.skip)))
      (.seq (.seq (.region [⟨(.l 35), .mv (.p 5), none⟩,
          ⟨(.l 36), .mv (.p 6), none⟩,
          ⟨(.l 37), .bin .lss (.l 35) (.l 36), none⟩])
        (.cond (.l 37)
         (.seq (.region [⟨(.p 4), .mv (.c (.int .i64 (1))), none⟩])
          (.ret))
         (.skip)))
       (.seq (.region [⟨(.p 4), .mv (.c (.int .i64 (0))), none⟩])
        (.ret)))))))
theorem ft39 : FT 39 = some ⟨38, [0, 1, 2, 3, 4, 5, 6], [.var (.p 4)], b39⟩ := by kernel_rfl

/-- stadion/stadionref01.Step -/
def b69 : ICode :=
 .seq (.region [⟨(.p 1), .mv (.c (.int .i64 (0))), none⟩,
    ⟨(.p 2), .mv (.c (.str [])), none⟩])
  (.seq (.seq (.region [⟨(.p 3), .mv (.p 0), none⟩])
    (.block 0
     (.seq (.region [⟨(.l 6), .bin .eql (.p 3) (.c (.str [104, 117, 110, 100, 114, 101, 100, 116, 104, 115])), none⟩,
        ⟨(.l 5), .mv (.l 6), none⟩])
      (.cond (.l 5)
       (.seq (.region [⟨(.p 1), .mv (.c (.int .i64 (100))), none⟩,
          ⟨(.p 2), .mv (.c (.str [116, 105, 109, 101])), none⟩])
        (.ret))
       (.seq (.region [⟨(.l 8), .bin .eql (.p 3) (.c (.str [116, 101, 110, 116, 104, 115])), none⟩,
          ⟨(.l 7), .mv (.l 8), none⟩])
        (.cond (.l 7)
         (.seq (.region [⟨(.p 1), .mv (.c (.int .i64 (1000))), none⟩,
            ⟨(.p 2), .mv (.c (.str [116, 105, 109, 101])), none⟩])
          (.ret))
         (.seq (.region [⟨(.l 10), .bin .eql (.p 3) (.c (.str [99, 101, 110, 116, 105, 109, 101, 116, 114, 101, 115])), none⟩,
            ⟨(.l 9), .mv (.l 10), none⟩])
          (.cond (.l 9)
           (.seq (.region [⟨(.p 1), .mv (.c (.int .i64 (10))), none⟩,
              ⟨(.p 2), .mv (.c (.str [108, 101, 110, 103, 116, 104])), none⟩])
            (.ret))
           (.seq (.region [⟨(.l 12), .bin .eql (.p 3) (.c (.str [101, 120, 97, 99, 116])), none⟩,
              ⟨(.l 11), .mv (.l 12), none⟩])
            (.cond (.l 11)
             (.seq (.region [⟨(.p 1), .mv (.c (.int .i64 (1))), none⟩,
                ⟨(.p 2), .mv (.c (.str [])), none⟩])
              (.ret))
             (.skip)))))))))))
   (.seq (.region [⟨(.p 1), .mv (.c (.int .i64 (0))), none⟩,
      ⟨(.p 2), .mv (.c (.str [])), none⟩])
    (.ret)))
theorem ft69 : FT 69 = some ⟨13, [0, 2, 3, 4], [.var (.p 1), .var (.p 2)], b69⟩ := by kernel_rfl

/-- stadion/stadionref01.Round -/
def b41 : ICode :=
 .seq (.region [⟨(.p 2), .box 49 3 (.p 0), none⟩,
    ⟨(.p 3), .alloc 49 [.str [], .int .i64 (0), .str []], none⟩,
    ⟨(.p 4), .mv (.c (.int .i64 (0))), none⟩])
  (.seq (.region [⟨(.l 10), .mv (.p 1), none⟩,
     ⟨(.l 11), .call (.c (.fn (.func 69) [] [])) [(.l 10)], none⟩,
     ⟨(.l 9), .mv (.l 11), none⟩,
     ⟨(.l 12), .extract 0 (.l 9), none⟩,
     ⟨(.l 13), .extract 1 (.l 9), none⟩,
     ⟨(.p 5), .mv (.l 12), none⟩,
     ⟨(.p 6), .mv (.l 13), none⟩])
   (.seq (.seq (.region [⟨(.l 14), .mv (.p 5), none⟩,
       ⟨(.l 15), .bin .eql (.l 14) (.c (.int .i64 (0))), none⟩,
       ⟨(.l 16), .mv (.l 15), none⟩,
       ⟨(.l 17), .mv (.p 6), some ((.l 16), false)⟩,
       ⟨(.l 18), .bin .neq (.l 17) (.c (.str [])), some ((.l 16), false)⟩,
       ⟨(.l 19), .mv (.l 18), some ((.l 16), false)⟩,
       ⟨(.l 20), .faddr 0 (.p 2), some ((.l 19), true)⟩,
       ⟨(.l 21), .load 1 false (.l 20), some ((.l 19), true)⟩,
       ⟨(.l 22), .bin .neq (.l 21) (.c (.str [110, 111, 110, 101])), some ((.l 19), true)⟩,
       ⟨(.l 23), .pick (.l 19) (.l 22) (.c (.bool false)), some ((.l 16), false)⟩,
       ⟨(.l 24), .mv (.l 23), some ((.l 16), false)⟩,
       ⟨(.l 25), .faddr 0 (.p 2), some ((.l 24), true)⟩,
       ⟨(.l 26), .load 1 false (.l 25), some ((.l 24), true)⟩,
       ⟨(.l 27), .mv (.p 6), some ((.l 24), true)⟩,
       ⟨(.l 28), .bin .neq (.l 26) (.l 27), some ((.l 24), true)⟩,
       ⟨(.l 29), .pick (.l 24) (.l 28) (.c (.bool false)), some ((.l 16), false)⟩,
       ⟨(.l 30), .pick (.l 16) (.c (.bool true)) (.l 29), none⟩])
     (.cond (.l 30)
      (.seq (.region [⟨(.l 31), .build [.str [], .int .i64 (0), .str []] [], none⟩,
         ⟨.no, .store 3 (.p 3) (.l 31), none⟩,
         ⟨(.p 4), .mv (.c (.int .i64 (13))), none⟩])
       (.ret))
      (.skip)))
    (.seq (.region [⟨(.l 32), .load 3 true (.p 2), none⟩,
       ⟨(.p 7), .alloc 49 [.str [], .int .i64 (0), .str []], none⟩,
       ⟨.no, .store 3 (.p 7) (.l 32), none⟩])
     (.seq (.region [⟨(.l 33), .faddr 1 (.p 2), none⟩,
        ⟨(.l 34), .load 1 false (.l 33), none⟩,
        ⟨(.l 35), .mv (.p 5), none⟩,
        ⟨(.l 36), .bin .quo (.l 34) (.l 35), none⟩,
        ⟨(.l 37), .mv (.p 5), none⟩,
        ⟨(.l 38), .bin .mul (.l 36) (.l 37), none⟩,
        ⟨(.l 39), .faddr 1 (.p 7), none⟩,
        ⟨.no, .store 1 (.l 39) (.l 38), none⟩])
      (.seq (.seq (.region [⟨(.l 40), .faddr 0 (.p 2), none⟩,
          ⟨(.l 41), .load 1 false (.l 40), none⟩,
          ⟨(.l 42), .bin .eql (.l 41) (.c (.str [116, 105, 109, 101])), none⟩,
          ⟨(.l 43), .mv (.l 42), none⟩,
          ⟨(.l 44), .faddr 1 (.p 7), some ((.l 43), true)⟩,
          ⟨(.l 45), .load 1 false (.l 44), some ((.l 43), true)⟩,
          ⟨(.l 46), .faddr 1 (.p 2), some ((.l 43), true)⟩,
          ⟨(.l 47), .load 1 false (.l 46), some ((.l 43), true)⟩,
          ⟨(.l 48), .bin .lss (.l 45) (.l 47), some ((.l 43), true)⟩,
          ⟨(.l 49), .pick (.l 43) (.l 48) (.c (.bool false)), none⟩])
        (.cond (.l 49)
         (.region [⟨(.l 50), .faddr 1 (.p 7), none⟩,
           ⟨(.l 51), .load 1 false (.l 50), none⟩,
           ⟨(.l 52), .mv (.p 5), none⟩,
           ⟨(.l 53), .bin .add (.l 51) (.l 52), none⟩,
           ⟨(.l 54), .faddr 1 (.p 7), none⟩,
           ⟨.no, .store 1 (.l 54) (.l 53), none⟩])
         (.skip)))
       (.seq (.seq (.draw [(⟨(.l 55), .faddr 1 (.p 7), none⟩, []),
           (⟨(.l 56), .load 1 false (.l 55), none⟩, []),
           (⟨(.l 57), .faddr 0 (.p 2), none⟩, [0, 1]),
           (⟨(.l 58), .load 1 false (.l 57), none⟩, [0, 1]),
           (⟨(.l 59), .call (.c (.fn (.func 111) [] [])) [(.l 58)], none⟩, [0, 1]),
           (⟨(.l 60), .bin .gtr (.l 56) (.l 59), none⟩, [])])
         (.cond (.l 60)
          (.seq (.region [⟨(.l 61), .build [.str [], .int .i64 (0), .str []] [], none⟩,
             ⟨.no, .store 3 (.p 3) (.l 61), none⟩,
             ⟨(.p 4), .mv (.c (.int .i64 (4))), none⟩])
           (.ret))
          (.skip)))
        (.seq (.region [⟨(.l 62), .load 3 true (.p 7), none⟩,
           ⟨.no, .store 3 (.p 3) (.l 62), none⟩,
           ⟨(.p 4), .mv (.c (.int .i64 (0))), none⟩])
         (.ret))))))))
theorem ft41 : FT 41 = some ⟨63, [0, 1, 2, 4, 5, 6, 7, 8], [.cell 3 true (.p 3), .var (.p 4)], b41⟩ := by kernel_rfl

/-- stadion/stadionref01.Wind -/
def b43 : ICode :=
 .seq (.region [⟨(.p 1), .mv (.c (.int .i64 (0))), none⟩])
  (.seq (.region [⟨(.l 4), .mv (.p 0), none⟩,
     ⟨(.l 5), .bin .quo (.l 4) (.c (.int .i64 (10))), none⟩,
     ⟨(.p 2), .mv (.l 5), none⟩])
   (.seq (.seq (.region [⟨(.l 6), .mv (.p 2), none⟩,
       ⟨(.l 7), .bin .mul (.l 6) (.c (.int .i64 (10))), none⟩,
       ⟨(.l 8), .mv (.p 0), none⟩,
       ⟨(.l 9), .bin .lss (.l 7) (.l 8), none⟩])
     (.cond (.l 9)
      (.region [⟨(.l 10), .mv (.p 2), none⟩,
        ⟨(.l 11), .bin .add (.l 10) (.c (.int .i64 (1))), none⟩,
        ⟨(.p 2), .mv (.l 11), none⟩])
      (.skip)))
    (.seq (.region [⟨(.l 12), .mv (.p 2), none⟩,
       ⟨(.p 1), .mv (.l 12), none⟩])
     (.ret))))
theorem ft43 : FT 43 = some ⟨13, [0, 2, 3], [.var (.p 1)], b43⟩ := by kernel_rfl

/-- stadion/stadionref01.Brief -/
def b34 : ICode :=
 .seq (.region [⟨(.p 1), .box 49 3 (.p 0), none⟩,
    ⟨(.p 2), .mv (.c (.bool false)), none⟩])
  (.seq (.region [⟨(.l 3), .faddr 0 (.p 1), none⟩,
     ⟨(.l 4), .load 1 false (.l 3), none⟩,
     ⟨(.l 5), .len .str (.l 4), none⟩,
     ⟨(.l 6), .bin .leq (.l 5) (.c (.int .i64 (40))), none⟩,
     ⟨(.l 7), .mv (.l 6), none⟩,
     ⟨(.l 8), .faddr 2 (.p 1), some ((.l 7), true)⟩,
     ⟨(.l 9), .load 1 false (.l 8), some ((.l 7), true)⟩,
     ⟨(.l 10), .len .str (.l 9), some ((.l 7), true)⟩,
     ⟨(.l 11), .bin .leq (.l 10) (.c (.int .i64 (40))), some ((.l 7), true)⟩,
     ⟨(.l 12), .pick (.l 7) (.l 11) (.c (.bool false)), none⟩,
     ⟨(.p 2), .mv (.l 12), none⟩])
   (.ret))
theorem ft34 : FT 34 = some ⟨13, [0, 1, 2], [.var (.p 2)], b34⟩ := by kernel_rfl

/-- stadion/stadionlaw01.integer -/
def b38 : ICode :=
 .seq (.region [⟨(.p 4), .mv (.c (.bool false)), none⟩])
  (.seq (.seq (.region [⟨(.l 9), .mv (.p 2), none⟩,
      ⟨(.l 10), .bin .neq (.l 9) (.c (.int .i64 (0))), none⟩])
    (.cond (.l 10)
     (.seq (.region [⟨(.l 11), .mv (.p 0), none⟩,
        ⟨(.l 12), .bin .eql (.l 11) (.c (.int .i64 (0))), none⟩,
        ⟨(.l 13), .mv (.l 12), none⟩,
        ⟨(.l 14), .mv (.p 1), some ((.l 13), true)⟩,
        ⟨(.l 15), .mv (.p 2), some ((.l 13), true)⟩,
        ⟨(.l 16), .bin .eql (.l 14) (.l 15), some ((.l 13), true)⟩,
        ⟨(.l 17), .pick (.l 13) (.l 16) (.c (.bool false)), none⟩,
        ⟨(.p 4), .mv (.l 17), none⟩])
      (.ret))
     (.skip)))
   (.seq (.region [⟨(.l 18), .mv (.p 1), none⟩,
      ⟨(.l 19), .bin .eql (.l 18) (.c (.int .i64 (0))), none⟩,
      ⟨(.l 20), .mv (.l 19), none⟩,
      ⟨(.l 21), .mv (.p 0), some ((.l 20), true)⟩,
      ⟨(.l 22), .mv (.p 3), some ((.l 20), true)⟩,
      ⟨(.l 23), .bin .eql (.l 21) (.l 22), some ((.l 20), true)⟩,
      ⟨(.l 24), .pick (.l 20) (.l 23) (.c (.bool false)), none⟩,
      ⟨(.p 4), .mv (.l 24), none⟩])
    (.ret)))
theorem ft38 : FT 38 = some ⟨25, [0, 1, 2, 3, 8], [.var (.p 4)], b38⟩ := by kernel_rfl

/-- stadion/stadionlaw01.MarkChecks -/
def b5 : ICode :=
 .seq (.region [⟨(.p 3), .box 49 3 (.p 0), none⟩,
    ⟨(.p 4), .box 49 3 (.p 1), none⟩,
    ⟨(.p 5), .mv (.c (.bool false)), none⟩])
  (.seq (.seq (.region [⟨(.l 20), .call (.c (.fn (.func 18) [] [])) [], none⟩,
      ⟨(.l 21), .un .not (.l 20), none⟩,
      ⟨(.l 22), .mv (.l 21), none⟩,
      ⟨(.l 23), .load 3 true (.p 3), some ((.l 22), false)⟩,
      ⟨(.l 24), .call (.c (.fn (.func 34) [] [])) [(.l 23)], some ((.l 22), false)⟩,
      ⟨(.l 25), .un .not (.l 24), some ((.l 22), false)⟩,
      ⟨(.l 26), .pick (.l 22) (.c (.bool true)) (.l 25), none⟩,
      ⟨(.l 27), .mv (.l 26), none⟩,
      ⟨(.l 28), .load 3 true (.p 4), some ((.l 27), false)⟩,
      ⟨(.l 29), .call (.c (.fn (.func 34) [] [])) [(.l 28)], some ((.l 27), false)⟩,
      ⟨(.l 30), .un .not (.l 29), some ((.l 27), false)⟩,
      ⟨(.l 31), .pick (.l 27) (.c (.bool true)) (.l 30), none⟩,
      ⟨(.l 32), .mv (.l 31), none⟩,
      ⟨(.l 33), .mv (.p 2), some ((.l 32), false)⟩,
      ⟨(.l 34), .len .str (.l 33), some ((.l 32), false)⟩,
      ⟨(.l 35), .bin .gtr (.l 34) (.c (.int .i64 (40))), some ((.l 32), false)⟩,
      ⟨(.l 36), .pick (.l 32) (.c (.bool true)) (.l 35), none⟩])
    (.cond (.l 36)
     (.seq (.region [⟨(.l 37), .call (.c (.fn (.func 18) [] [])) [], none⟩,
        ⟨(.p 5), .mv (.l 37), none⟩])
      (.ret))
     (.skip)))
   (.seq (.draw [(⟨(.l 38), .load 3 true (.p 3), none⟩, []),
      (⟨(.l 39), .call (.c (.fn (.func 35) [] [])) [(.l 38)], none⟩, []),
      (⟨(.l 40), .load 3 true (.p 4), none⟩, [0, 1]),
      (⟨(.l 41), .call (.c (.fn (.func 35) [] [])) [(.l 40)], none⟩, []),
      (⟨(.p 6), .mv (.l 39), none⟩, []),
      (⟨(.p 7), .mv (.l 41), none⟩, [])])
    (.seq (.seq (.region [⟨(.l 42), .load 3 true (.p 3), none⟩,
        ⟨(.l 43), .call (.c (.fn (.func 36) [] [])) [(.l 42)], none⟩,
        ⟨(.l 44), .mv (.p 6), none⟩,
        ⟨(.l 45), .bin .neq (.l 43) (.l 44), none⟩])
      (.cond (.l 45)
       (.seq (.region [⟨(.p 5), .mv (.c (.bool false)), none⟩])
        (.ret))
       (.skip)))
     (.seq (.region [⟨(.l 47), .load 3 true (.p 3), none⟩,
        ⟨(.l 48), .load 3 true (.p 4), none⟩,
        ⟨(.l 49), .call (.c (.fn (.func 37) [] [])) [(.l 47), (.l 48)], none⟩,
        ⟨(.l 46), .mv (.l 49), none⟩,
        ⟨(.l 50), .extract 0 (.l 46), none⟩,
        ⟨(.l 51), .extract 1 (.l 46), none⟩,
        ⟨(.p 8), .mv (.l 50), none⟩,
        ⟨(.p 9), .mv (.l 51), none⟩])
      (.seq (.region [⟨(.l 52), .mv (.p 6), none⟩,
         ⟨(.l 53), .mv (.p 7), none⟩,
         ⟨(.l 54), .bslice 3 2 1 [.int .i64 (0)] [(0, 1, (.l 52)), (1, 1, (.l 53))], none⟩,
         ⟨(.l 55), .call (.c (.fn (.func 24) [] [])) [(.l 54)], none⟩,
         ⟨(.p 10), .mv (.l 55), none⟩])
       (.seq (.seq (.region [⟨(.l 56), .mv (.p 10), none⟩,
           ⟨(.l 57), .bin .eql (.l 56) (.c (.int .i64 (0))), none⟩])
         (.cond (.l 57)
          (.region [⟨(.l 58), .faddr 0 (.p 3), none⟩,
            ⟨(.l 59), .load 1 false (.l 58), none⟩,
            ⟨(.l 60), .faddr 0 (.p 4), none⟩,
            ⟨(.l 61), .load 1 false (.l 60), none⟩,
            ⟨(.l 62), .bin .neq (.l 59) (.l 61), none⟩,
            ⟨(.l 63), .mv (.l 62), none⟩,
            ⟨(.l 64), .faddr 0 (.p 3), some ((.l 63), true)⟩,
            ⟨(.l 65), .load 1 false (.l 64), some ((.l 63), true)⟩,
            ⟨(.l 66), .bin .neq (.l 65) (.c (.str [110, 111, 110, 101])), some ((.l 63), true)⟩,
            ⟨(.l 67), .pick (.l 63) (.l 66) (.c (.bool false)), none⟩,
            ⟨(.l 68), .mv (.l 67), none⟩,
            ⟨(.l 69), .faddr 0 (.p 4), some ((.l 68), true)⟩,
            ⟨(.l 70), .load 1 false (.l 69), some ((.l 68), true)⟩,
            ⟨(.l 71), .bin .neq (.l 70) (.c (.str [110, 111, 110, 101])), some ((.l 68), true)⟩,
            ⟨(.l 72), .pick (.l 68) (.l 71) (.c (.bool false)), none⟩,
            ⟨(.l 73), .call (.c (.fn (.func 25) [] [])) [(.l 72), (.c (.int .i64 (13)))], none⟩,
            ⟨(.p 10), .mv (.l 73), none⟩])
          (.skip)))
        (.seq (.seq (.region [⟨(.l 74), .mv (.p 10), none⟩,
            ⟨(.l 75), .bin .neq (.l 74) (.c (.int .i64 (0))), none⟩,
            ⟨(.l 76), .mv (.l 75), none⟩,
            ⟨(.l 77), .mv (.p 8), some ((.l 76), true)⟩,
            ⟨(.l 78), .mv (.p 9), some ((.l 76), true)⟩,
            ⟨(.l 79), .mv (.p 10), some ((.l 76), true)⟩,
            ⟨(.l 80), .call (.c (.fn (.func 38) [] [])) [(.l 77), (.l 78), (.l 79), (.c (.int .i64 (0)))], some ((.l 76), true)⟩,
            ⟨(.l 81), .un .not (.l 80), some ((.l 76), true)⟩,
            ⟨(.l 82), .pick (.l 76) (.l 81) (.c (.bool false)), none⟩,
            ⟨(.l 83), .mv (.l 82), none⟩,
            ⟨(.l 84), .mv (.p 10), some ((.l 83), false)⟩,
            ⟨(.l 85), .bin .eql (.l 84) (.c (.int .i64 (0))), some ((.l 83), false)⟩,
            ⟨(.l 86), .mv (.l 85), some ((.l 83), false)⟩,
            ⟨(.l 87), .mv (.p 8), some ((.l 86), true)⟩,
            ⟨(.l 88), .mv (.p 9), some ((.l 86), true)⟩,
            ⟨(.l 89), .load 3 true (.p 3), some ((.l 86), true)⟩,
            ⟨(.l 90), .load 3 true (.p 4), some ((.l 86), true)⟩,
            ⟨(.l 91), .call (.c (.fn (.func 39) [] [])) [(.l 89), (.l 90)], some ((.l 86), true)⟩,
            ⟨(.l 92), .call (.c (.fn (.func 38) [] [])) [(.l 87), (.l 88), (.c (.int .i64 (0))), (.l 91)], some ((.l 86), true)⟩,
            ⟨(.l 93), .un .not (.l 92), some ((.l 86), true)⟩,
            ⟨(.l 94), .pick (.l 86) (.l 93) (.c (.bool false)), some ((.l 83), false)⟩,
            ⟨(.l 95), .pick (.l 83) (.c (.bool true)) (.l 94), none⟩])
          (.cond (.l 95)
           (.seq (.region [⟨(.p 5), .mv (.c (.bool false)), none⟩])
            (.ret))
           (.skip)))
         (.seq (.region [⟨(.l 97), .load 3 true (.p 3), none⟩,
            ⟨(.l 98), .mv (.p 2), none⟩,
            ⟨(.l 99), .call (.c (.fn (.func 40) [] [])) [(.l 97), (.l 98)], none⟩,
            ⟨(.l 96), .mv (.l 99), none⟩,
            ⟨(.l 100), .extract 0 (.l 96), none⟩,
            ⟨(.l 101), .extract 1 (.l 96), none⟩,
            ⟨(.p 11), .alloc 49 [.str [], .int .i64 (0), .str []], none⟩,
            ⟨.no, .store 3 (.p 11) (.l 100), none⟩,
            ⟨(.p 12), .mv (.l 101), none⟩])
          (.seq (.region [⟨(.l 102), .build [.str [], .int .i64 (0), .str []] [], none⟩,
             ⟨(.l 103), .mv (.p 6), none⟩,
             ⟨(.p 13), .alloc 49 [.str [], .int .i64 (0), .str []], none⟩,
             ⟨.no, .store 3 (.p 13) (.l 102), none⟩,
             ⟨(.p 14), .mv (.l 103), none⟩])
           (.seq (.seq (.region [⟨(.l 104), .mv (.p 14), none⟩,
               ⟨(.l 105), .bin .eql (.l 104) (.c (.int .i64 (0))), none⟩])
             (.cond (.l 105)
              (.region [⟨(.l 107), .load 3 true (.p 3), none⟩,
                ⟨(.l 108), .mv (.p 2), none⟩,
                ⟨(.l 109), .call (.c (.fn (.func 41) [] [])) [(.l 107), (.l 108)], none⟩,
                ⟨(.l 106), .mv (.l 109), none⟩,
                ⟨(.l 110), .extract 0 (.l 106), none⟩,
                ⟨(.l 111), .extract 1 (.l 106), none⟩,
                ⟨.no, .store 3 (.p 13) (.l 110), none⟩,
                ⟨(.p 14), .mv (.l 111), none⟩])
              (.skip)))
            (.seq (.region [⟨(.l 113), .faddr 1 (.p 4), none⟩,
               ⟨(.l 114), .load 1 false (.l 113), none⟩,
               ⟨(.l 115), .call (.c (.fn (.func 42) [] [])) [(.l 114)], none⟩,
               ⟨(.l 112), .mv (.l 115), none⟩,
               ⟨(.l 116), .extract 0 (.l 112), none⟩,
               ⟨(.l 117), .extract 1 (.l 112), none⟩,
               ⟨(.p 15), .mv (.l 116), none⟩,
               ⟨(.p 16), .mv (.l 117), none⟩])
             (.seq (.region [⟨(.l 118), .faddr 1 (.p 4), none⟩,
                ⟨(.l 119), .load 1 false (.l 118), none⟩,
                ⟨(.l 120), .bin .lss (.l 119) (.c (.int .i64 (-9999))), none⟩,
                ⟨(.l 121), .mv (.l 120), none⟩,
                ⟨(.l 122), .faddr 1 (.p 4), some ((.l 121), false)⟩,
                ⟨(.l 123), .load 1 false (.l 122), some ((.l 121), false)⟩,
                ⟨(.l 124), .bin .gtr (.l 123) (.c (.int .i64 (9999))), some ((.l 121), false)⟩,
                ⟨(.l 125), .pick (.l 121) (.c (.bool true)) (.l 124), none⟩,
                ⟨(.l 126), .call (.c (.fn (.func 25) [] [])) [(.l 125), (.c (.int .i64 (3)))], none⟩,
                ⟨(.p 17), .mv (.l 126), none⟩])
              (.seq (.region [⟨(.p 18), .mv (.c (.int .i64 (0))), none⟩])
               (.seq (.seq (.region [⟨(.l 127), .mv (.p 17), none⟩,
                   ⟨(.l 128), .bin .eql (.l 127) (.c (.int .i64 (0))), none⟩])
                 (.cond (.l 128)
                  (.region [⟨(.l 129), .faddr 1 (.p 4), none⟩,
                    ⟨(.l 130), .load 1 false (.l 129), none⟩,
                    ⟨(.l 131), .call (.c (.fn (.func 43) [] [])) [(.l 130)], none⟩,
                    ⟨(.p 18), .mv (.l 131), none⟩])
                  (.skip)))
                (.seq (.region [⟨(.l 132), .load 3 true (.p 11), none⟩,
                   ⟨(.l 133), .load 3 true (.p 13), none⟩,
                   ⟨(.l 134), .eq false (.strct [(0, 1, false, .str), (1, 1, false, .int), (2, 1, false, .str)]) (.l 132) (.l 133), none⟩,
                   ⟨(.l 135), .mv (.l 134), none⟩,
                   ⟨(.l 136), .mv (.p 12), some ((.l 135), true)⟩,
                   ⟨(.l 137), .mv (.p 14), some ((.l 135), true)⟩,
                   ⟨(.l 138), .bin .eql (.l 136) (.l 137), some ((.l 135), true)⟩,
                   ⟨(.l 139), .pick (.l 135) (.l 138) (.c (.bool false)), none⟩,
                   ⟨(.l 140), .mv (.l 139), none⟩,
                   ⟨(.l 141), .mv (.p 15), some ((.l 140), true)⟩,
                   ⟨(.l 142), .mv (.p 16), some ((.l 140), true)⟩,
                   ⟨(.l 143), .mv (.p 17), some ((.l 140), true)⟩,
                   ⟨(.l 144), .mv (.p 18), some ((.l 140), true)⟩,
                   ⟨(.l 145), .call (.c (.fn (.func 38) [] [])) [(.l 141), (.l 142), (.l 143), (.l 144)], some ((.l 140), true)⟩,
                   ⟨(.l 146), .pick (.l 140) (.l 145) (.c (.bool false)), none⟩,
                   ⟨(.p 5), .mv (.l 146), none⟩])
                 (.ret))))))))))))))))
theorem ft5 : FT 5 = some ⟨147, [0, 1, 2, 3, 4, 6, 7, 8, 9, 10, 11, 12, 13, 14, 15, 16, 17, 18, 19], [.var (.p 5)], b5⟩ := by kernel_rfl

/-- slices.Contains[[]string,string] -/
def b116 : ICode :=
 .seq (.region [⟨(.p 2), .mv (.c (.bool false)), none⟩])
  (.seq (.region [⟨(.l 5), .mv (.p 0), none⟩,
     ⟨(.l 6), .mv (.p 1), none⟩,
     ⟨(.l 7), .call (.c (.fn (.func 185) [] [])) [(.l 5), (.l 6)], none⟩,
     ⟨(.l 8), .bin .geq (.l 7) (.c (.int .i64 (0))), none⟩,
     ⟨(.p 2), .mv (.l 8), none⟩])
   (.ret))
theorem ft116 : FT 116 = some ⟨9, [0, 1, 4], [.var (.p 2)], b116⟩ := by kernel_rfl

def b185_0 : ICode :=
 .seq (.region [⟨(.l 9), .bin .lss (.p 5) (.p 4), none⟩])
  (.seq (.cond (.l 9)
    (.skip)
    (.exit 0))
   (.seq (.block 1
     (.seq (.region [⟨(.l 10), .mv (.p 5), none⟩,
        ⟨(.p 3), .mv (.l 10), none⟩])
      (.seq (.region [⟨(.l 11), .mv (.p 1), none⟩,
         ⟨(.l 12), .mv (.p 0), none⟩,
         ⟨(.l 13), .mv (.p 3), none⟩,
         ⟨(.l 14), .iaddr none 1 (.l 12) (.l 13), none⟩,
         ⟨(.l 15), .load 1 false (.l 14), none⟩,
         ⟨(.l 16), .bin .eql (.l 11) (.l 15), none⟩])
       (.cond (.l 16)
        (.seq (.region [⟨(.l 17), .mv (.p 3), none⟩,
           ⟨(.p 2), .mv (.l 17), none⟩])
         (.ret))
        (.skip)))))
    (.region [⟨(.l 18), .bin .add (.p 5) (.c (.int .i64 (1))), none⟩,
      ⟨(.p 5), .mv (.l 18), none⟩])))
/-- slices.Index[[]string,string] -/
def b185 : ICode :=
 .seq (.region [⟨(.p 2), .mv (.c (.int .i64 (0))), none⟩])
  (.seq (.seq (.region [⟨(.l 6), .mv (.p 0), none⟩,
      ⟨(.p 4), .len .sl (.l 6), none⟩,
      ⟨(.p 5), .mv (.c (.int .i64 (0))), none⟩])
    (.block 0
     (.loop b185_0)))
   (.seq (.region [⟨(.p 2), .mv (.c (.int .i64 (-1))), none⟩])
    (.ret)))
theorem ft185 : FT 185 = some ⟨19, [0, 1, 4, 5, 7, 8], [.var (.p 2)], b185⟩ := by kernel_rfl

end Go.Ab.Ch1


/-
  Own work: marks of chapter 1: the contracts of the checks, of the order and of rounding.
-/
namespace Go.Ab.Ch1
variable {inv : InvF} {F : FuncId → Option IFunc}

abbrev sNone : List UInt8 := [110, 111, 110, 101]
abbrev sTime : List UInt8 := [116, 105, 109, 101]
abbrev sLength : List UInt8 := [108, 101, 110, 103, 116, 104]
abbrev sPoints : List UInt8 := [112, 111, 105, 110, 116, 115]
abbrev sExact : List UInt8 := [101, 120, 97, 99, 116]
abbrev sHund : List UInt8 := [104, 117, 110, 100, 114, 101, 100, 116, 104, 115]
abbrev sTenths : List UInt8 := [116, 101, 110, 116, 104, 115]
abbrev sCent : List UInt8 := [99, 101, 110, 116, 105, 109, 101, 116, 114, 101, 115]
abbrev mkM (k : List UInt8) (v : Int) (r : List UInt8) : AV := .agg [.str k, .int .i64 v, .str r]

def indexOf (x : List UInt8) : List (List UInt8) → Nat → Int
  | [], _ => -1
  | a :: l, i => if x = a then i else indexOf x l (i + 1)
theorem indexOf_drop {x : List UInt8} {l : List (List UInt8)} {i : Nat} (h : i < l.length) : indexOf x (l.drop i) i = if x = l[i]! then (i : Int) else indexOf x (l.drop (i + 1)) (i + 1) := by
  rw [List.drop_eq_getElem_cons h, getElem!_pos l i h, indexOf]
theorem indexOf_mem {x : List UInt8} : ∀ (l : List (List UInt8)) (i : Nat), decide (0 ≤ indexOf x l i) = decide (x ∈ l)
  | [], i => by simp [indexOf]
  | a :: l, i => by
    rw [indexOf]
    split
    · rename_i h; subst h; simp
    · rename_i h; rw [indexOf_mem l (i + 1)]; simp [h]
theorem body185 {T : List (Nat × Spec)} (l : List (List UInt8)) (x : List UInt8) (cap : Option Nat) (hl : l.length < 4611686018427387904) (hp : Heap) (df : List Nat) {Q : Ex → StW → Prop} : ∀ (r i : Nat), i + r = l.length → ∀ (a2 a3 : AV) (lo : List (Nat × AV)) (wr : List Nat),
    (indexOf x (l.drop i) i = -1 → ∀ a3 lo wr, Q (.exit 0) ⟨⟨[.vs (strs l) l.length cap, .str x, a2, a3, .int .i64 l.length, .int .i64 l.length], lo, hp, df⟩, wr⟩) →
    (∀ a3 a5 lo wr, Q .ret ⟨⟨[.vs (strs l) l.length cap, .str x, .int .i64 (indexOf x (l.drop i) i), a3, .int .i64 l.length, a5], lo, hp, df⟩, wr⟩) →
    W (mk0 T inv F) (.loop b185_0) ⟨⟨[.vs (strs l) l.length cap, .str x, a2, a3, .int .i64 l.length, .int .i64 i], lo, hp, df⟩, wr⟩ Q
  | 0, i, hi, a2, a3, lo, wr, h1, h2 => by
    obtain rfl : i = l.length := by omega
    refine W.loop ?_
    unfold b185_0
    repeat' first | apply W.seq | apply SQn | apply W.region | apply WO.nil | apply W.block | apply W.ret | apply W.exit | apply W.skip | apply SQr | apply SQe | apply BQn | apply BQr | apply BQe | (apply BQo; exact rfl) | apply LQe | apply LQr | (apply W.condT; exact rfl) | (apply W.condF; exact rfl) | (apply W.cond; exact rfl; all_goals intro _) | (apply WO.lss; exact rfl; exact rfl; all_goals first | (intro _; exfalso; omega) | intro _) | (apply WO.eql; exact rfl; exact rfl; all_goals first | (intro _; exfalso; omega) | intro _) | (apply WO.add; exact rfl; exact rfl; omega) | (apply WO.iav; exact rfl; exact rfl; omega) | (apply WO.ias; exact rfl; exact rfl; omega) | (apply WO.lda; exact rfl; exact fun _ => rfl; (first | omega | (simp only [List.length_set]; omega) | (simp; omega)); decide; exact rfl; case ia => infer_instance) | (apply WO.lsa; exact rfl; (first | exact rfl | assumption | exact at_new | (apply at_old; assumption) | (apply at_put; first | assumption | (simp only [put_length]; assumption))); exact fun _ => rfl; (first | omega | (simp only [List.length_set]; omega) | (simp; omega)); decide; exact rfl; case ia => infer_instance) | (apply WO.seql; exact rfl; exact rfl; all_goals first | (intro h; exact absurd h (by decide)) | (intro h; exact absurd rfl h) | (intro h; contradiction) | intro _) | (apply WO.hlv; exact rfl; exact rfl; exact rfl) | (apply WO.hpv; exact rfl; exact rfl; exact rfl) | (apply WO.hnv; exact rfl; exact rfl; exact rfl) | (apply WO.pl; exact rfl; exact rfl) | (apply WO.pp; exact rfl; exact rfl)
    exact h1 (by simp [indexOf]) _ _ _
  | r + 1, i, hi, a2, a3, lo, wr, h1, h2 => by
    have e := indexOf_drop (x := x) (l := l) (i := (i : Int).toNat) (by omega)
    rw [Int.toNat_natCast] at e
    refine W.loop ?_
    unfold b185_0
    repeat' first | apply W.seq | apply SQn | apply W.region | apply WO.nil | apply W.block | apply W.ret | apply W.exit | apply W.skip | apply SQr | apply SQe | apply BQn | apply BQr | apply BQe | (apply BQo; exact rfl) | apply LQe | apply LQr | (apply W.condT; exact rfl) | (apply W.condF; exact rfl) | (apply W.cond; exact rfl; all_goals intro _) | (apply WO.lss; exact rfl; exact rfl; all_goals first | (intro _; exfalso; omega) | intro _) | (apply WO.eql; exact rfl; exact rfl; all_goals first | (intro _; exfalso; omega) | intro _) | (apply WO.add; exact rfl; exact rfl; omega) | (apply WO.iav; exact rfl; exact rfl; omega) | (apply WO.ias; exact rfl; exact rfl; omega) | (apply WO.lda; exact rfl; exact fun _ => rfl; (first | omega | (simp only [List.length_set]; omega) | (simp; omega)); decide; exact rfl; case ia => infer_instance) | (apply WO.lsa; exact rfl; (first | exact rfl | assumption | exact at_new | (apply at_old; assumption) | (apply at_put; first | assumption | (simp only [put_length]; assumption))); exact fun _ => rfl; (first | omega | (simp only [List.length_set]; omega) | (simp; omega)); decide; exact rfl; case ia => infer_instance) | (apply WO.seql; exact rfl; exact rfl; all_goals first | (intro h; exact absurd h (by decide)) | (intro h; exact absurd rfl h) | (intro h; contradiction) | intro _) | (apply WO.hlv; exact rfl; exact rfl; exact rfl) | (apply WO.hpv; exact rfl; exact rfl; exact rfl) | (apply WO.hnv; exact rfl; exact rfl; exact rfl) | (apply WO.pl; exact rfl; exact rfl) | (apply WO.pp; exact rfl; exact rfl)
    · rename_i he
      rw [Int.toNat_natCast] at he
      rw [if_pos he] at e
      rw [e] at h2
      exact h2 _ _ _ _
    · rename_i he
      rw [Int.toNat_natCast] at he
      rw [if_neg he] at e
      rw [e] at h1 h2
      exact LQn (body185 l x cap hl hp df r (i + 1) (by omega) _ _ _ _ h1 h2)
theorem w185 {T : List (Nat × Spec)} (hft : F = FT) (l : List (List UInt8)) (x : List UInt8) (cap : Option Nat) (hl : l.length < 4611686018427387904) : Run (mk0 T inv F) 185 [.vs (strs l) l.length cap, .str x] [] ⟨.int .i64 (indexOf x l 0), [], []⟩ := by
  refine run_of_W (show F 185 = _ from by rw [hft]; exact ft185) (by simp) ?_
  unfold b185
  simp only [List.map_cons, List.map_nil, List.getElem?_cons_zero, List.getElem?_cons_succ, List.getElem?_nil, Option.getD_some, Option.getD_none]
  repeat' first | apply W.seq | apply SQn | apply W.region | apply WO.nil | apply W.block | apply W.ret | apply W.exit | apply W.skip | apply SQr | apply SQe | apply BQn | apply BQr | apply BQe | (apply BQo; exact rfl) | apply LQe | apply LQr | (apply W.condT; exact rfl) | (apply W.condF; exact rfl) | (apply W.cond; exact rfl; all_goals intro _) | (apply WO.pl; exact rfl; exact rfl) | (apply WO.pp; exact rfl; exact rfl)
  refine body185 l x cap hl _ _ l.length 0 (by omega) _ _ _ _ (fun h a2 lo wr => ?_) (fun a2 a5 lo wr => ?_)
  · repeat' first | apply W.seq | apply SQn | apply W.region | apply WO.nil | apply W.block | apply W.ret | apply W.exit | apply W.skip | apply SQr | apply SQe | apply BQn | apply BQr | apply BQe | (apply BQo; exact rfl) | apply LQe | apply LQr | (apply W.condT; exact rfl) | (apply W.condF; exact rfl) | (apply W.cond; exact rfl; all_goals intro _) | (apply WO.pl; exact rfl; exact rfl) | (apply WO.pp; exact rfl; exact rfl)
    exact ⟨.inr rfl, rfl, _, rfl, by rw [List.drop_zero] at h; rw [h]; rfl, rfl⟩
  · repeat' first | apply W.seq | apply SQn | apply W.region | apply WO.nil | apply W.block | apply W.ret | apply W.exit | apply W.skip | apply SQr | apply SQe | apply BQn | apply BQr | apply BQe | (apply BQo; exact rfl) | apply LQe | apply LQr | (apply W.condT; exact rfl) | (apply W.condF; exact rfl) | (apply W.cond; exact rfl; all_goals intro _) | (apply WO.pl; exact rfl; exact rfl) | (apply WO.pp; exact rfl; exact rfl)
    exact ⟨.inr rfl, rfl, _, rfl, rfl, rfl⟩

def specIndex : Spec := fun
  | [v, .str x], h => match strsAt h v with
    | some l => if l.length < 4611686018427387904 then some ⟨.int .i64 (indexOf x l 0), h, []⟩ else none
    | none => none
  | _, _ => none
def specContains : Spec := fun
  | [v, .str x], h => match strsAt h v with
    | some l => if l.length < 4611686018427387904 then some ⟨.bool (decide (x ∈ l)), h, []⟩ else none
    | none => none
  | _, _ => none
theorem strsAt_vs {h : Heap} {l : List (List UInt8)} {cap : Option Nat} : strsAt h (.vs (strs l) l.length cap) = some l := by
  simp only [strsAt, cellsAt, sliceCells, decStrs_strs, if_true]

theorem w116 {T : List (Nat × Spec)} (hft : F = FT) (l : List (List UInt8)) (x : List UInt8) (cap : Option Nat) (hl : l.length < 4611686018427387904) : Run (mk0 ((185, specIndex) :: T) inv F) 116 [.vs (strs l) l.length cap, .str x] [] ⟨.bool (decide (x ∈ l)), [], []⟩ := by
  have hi : ∀ h, (mk0 ((185, specIndex) :: T) inv F).ext 185 [.vs (strs l) l.length cap, .str x] h = some ⟨.int .i64 (indexOf x l 0), h, []⟩ := fun h => by
    show extS _ _ _ _ = _
    simp only [ext_hd, specIndex, strsAt_vs, if_pos hl]
  refine run_of_W (show F 116 = _ from by rw [hft]; exact ft116) (by simp) ?_
  unfold b116
  simp only [List.map_cons, List.map_nil, List.getElem?_cons_zero, List.getElem?_cons_succ, List.getElem?_nil, Option.getD_some, Option.getD_none]
  have hm := indexOf_mem (x := x) l 0
  repeat' first | apply W.seq | apply SQn | apply W.region | apply WO.nil | apply W.block | apply W.ret | apply W.exit | apply W.skip | apply SQr | apply SQe | apply BQn | apply BQr | apply BQe | (apply BQo; exact rfl) | apply LQe | apply LQr | (apply W.condT; exact rfl) | (apply W.condF; exact rfl) | (apply W.cond; exact rfl; all_goals intro _) | (apply WO.geq; exact rfl; exact rfl; all_goals first | (intro _; exfalso; omega) | intro _) | (apply WO.cll; exact rfl; exact rfl; first | exact hi _) | (apply WO.clb; exact rfl; exact rfl; exact rfl; all_goals first | (intro h; exact absurd h (by decide)) | intro _) | (apply WO.cll; exact rfl; exact rfl; exact rfl) | (apply WO.pl; exact rfl; exact rfl) | (apply WO.pp; exact rfl; exact rfl)
  all_goals refine ⟨.inr rfl, rfl, _, rfl, ?_, rfl⟩
  all_goals rw [← hm]
  · rename_i h; rw [decide_eq_true h]; rfl
  · rename_i h; rw [decide_eq_false (by omega)]; rfl

/-! mark.isReason, mark.kinds. -/
abbrev reasons : List (List UInt8) := [[68, 78, 83], [68, 78, 70], [68, 81], [78, 77]]
def specReason : Spec := fun
  | [.str x], h => some ⟨.bool (decide (x ∈ reasons)), h, []⟩
  | _, _ => none
theorem w112 {T : List (Nat × Spec)} (hft : F = FT) (x : List UInt8) : Run (mk0 ((116, specContains) :: T) inv F) 112 [.str x] [] ⟨.bool (decide (x ∈ reasons)), [], []⟩ := by
  refine run_of_W (show F 112 = _ from by rw [hft]; exact ft112) (by simp) ?_
  unfold b112
  simp only [List.map_cons, List.map_nil, List.getElem?_cons_zero, List.getElem?_cons_succ, List.getElem?_nil, Option.getD_some, Option.getD_none]
  repeat' first | apply W.seq | apply SQn | apply W.region | apply WO.nil | apply W.block | apply W.ret | apply W.exit | apply W.skip | apply SQr | apply SQe | apply BQn | apply BQr | apply BQe | (apply BQo; exact rfl) | apply LQe | apply LQr | (apply W.condT; exact rfl) | (apply W.condF; exact rfl) | (apply W.cond; exact rfl; all_goals intro _) | (apply WO.clb; exact rfl; exact rfl; exact rfl; all_goals first | (intro h; exact absurd h (by decide)) | intro _) | (apply WO.cll; exact rfl; exact rfl; exact rfl) | (apply WO.hlv; exact rfl; exact rfl; exact rfl) | (apply WO.hpv; exact rfl; exact rfl; exact rfl) | (apply WO.hnv; exact rfl; exact rfl; exact rfl) | (apply WO.pl; exact rfl; exact rfl) | (apply WO.pp; exact rfl; exact rfl)
  all_goals (rename_i h; exact ⟨.inr rfl, rfl, _, rfl, by rw [h]; rfl, rfl⟩)
theorem w109 {T : List (Nat × Spec)} (hft : F = FT) (x : List UInt8) : Run (mk0 T inv F) 109 [.str x] [] ⟨.bool (decide (x ∈ reasons)), [], []⟩ := by
  refine run_of_W (show F 109 = _ from by rw [hft]; exact ft109) (by simp) ?_
  unfold b109
  simp only [List.map_cons, List.map_nil, List.getElem?_cons_zero, List.getElem?_cons_succ, List.getElem?_nil, Option.getD_some, Option.getD_none]
  repeat' first | apply W.seq | apply SQn | apply W.region | apply WO.nil | apply W.block | apply W.ret | apply W.exit | apply W.skip | apply SQr | apply SQe | apply BQn | apply BQr | apply BQe | (apply BQo; exact rfl) | apply LQe | apply LQr | (apply W.condT; exact rfl) | (apply W.condF; exact rfl) | (apply W.cond; exact rfl; all_goals intro _) | (apply WO.gT; exact rfl) | (apply WO.gF; exact rfl) | (apply WO.sT; exact rfl) | (apply WO.sF; exact rfl) | (apply WO.sU; exact rfl) | (apply WO.eql; exact rfl; exact rfl; all_goals first | (intro _; exfalso; omega) | intro _) | (apply WO.pkT; exact rfl; exact rfl) | (apply WO.pkF; exact rfl; exact rfl) | (apply WO.seql; exact rfl; exact rfl; all_goals first | (intro h; exact absurd h (by decide)) | (intro h; exact absurd rfl h) | (intro h; contradiction) | intro _) | (apply WO.pl; exact rfl; exact rfl) | (apply WO.pp; exact rfl; exact rfl)
  all_goals exact ⟨.inr rfl, rfl, _, rfl, by simp [tupA, *], rfl⟩

abbrev rTime (N : Nat) : AV := .agg [.int .i64 1, .int .i64 863999999, .bool false, .map (N + 1), .fn (.func 180) [] []]
abbrev rLength (N : Nat) : AV := .agg [.int .i64 0, .int .i64 999999, .bool true, .map (N + 2), .fn (.func 181) [] []]
abbrev rPoints (N : Nat) : AV := .agg [.int .i64 0, .int .i64 99999, .bool true, .map (N + 3), .fn (.func 182) [] []]
abbrev kBlocks (N : Nat) : List Blk := [.map [(.str sTime, rTime N), (.str sLength, rLength N), (.str sPoints, rPoints N)],
  .map [(.str sExact, .int .i64 1), (.str sHund, .int .i64 100), (.str sTenths, .int .i64 1000)], .map [(.str sExact, .int .i64 1), (.str sCent, .int .i64 10)], .map [(.str sExact, .int .i64 1)]]
def specKinds : Spec := fun
  | [], h => some ⟨.map h.length, h ++ (kBlocks h.length).map some, []⟩
  | _, _ => none
theorem w113 {T : List (Nat × Spec)} (hft : F = FT) : Run (mk0 T inv F) 113 [] [] ⟨.map 0, (kBlocks 0).map some, []⟩ := by
  refine run_of_W (show F 113 = _ from by rw [hft]; exact ft113) (by simp) ?_
  unfold b113
  simp only [List.map_cons, List.map_nil, List.getElem?_nil, Option.getD_none]
  repeat' first | apply W.seq | apply SQn | apply W.region | apply WO.nil | apply W.block | apply W.ret | apply W.exit | apply W.skip | apply SQr | apply SQe | apply BQn | apply BQr | apply BQe | (apply BQo; exact rfl) | apply LQe | apply LQr | (apply W.condT; exact rfl) | (apply W.condF; exact rfl) | (apply W.cond; exact rfl; all_goals intro _) | (apply WO.hlv; exact rfl; exact rfl; exact rfl) | (apply WO.hpv; exact rfl; exact rfl; exact rfl) | (apply WO.hnv; exact rfl; exact rfl; exact rfl) | (apply WO.pl; exact rfl; exact rfl) | (apply WO.pp; exact rfl; exact rfl)
  exact ⟨.inr rfl, rfl, _, rfl, rfl, rfl⟩

def kLeast (k : List UInt8) : Int := if k = sTime then 1 else 0
def kMost (k : List UInt8) : Int := if k = sTime then 863999999 else if k = sLength then 999999 else 99999
def known (k : List UInt8) : Prop := k = sTime ∨ k = sLength ∨ k = sPoints
instance (k : List UInt8) : Decidable (known k) := by unfold known; infer_instance
/-- The first error of a mark. -/
def chk (k : List UInt8) (v : Int) (r : List UInt8) : Int :=
  if k = sNone then (if r ∉ reasons then 1 else if v ≠ 0 then 3 else 0) else if ¬ known k then 13 else if r ≠ [] then 1 else if v < kLeast k ∨ kMost k < v then 3 else 0

theorem kind_cases (k : List UInt8) : k = sNone ∨ k = sTime ∨ k = sLength ∨ k = sPoints ∨ (k ≠ sNone ∧ ¬ known k) := by
  unfold known
  by_cases h1 : k = sNone
  · exact .inl h1
  by_cases h2 : k = sTime
  · exact .inr (.inl h2)
  by_cases h3 : k = sLength
  · exact .inr (.inr (.inl h3))
  by_cases h4 : k = sPoints
  · exact .inr (.inr (.inr (.inl h4)))
  exact .inr (.inr (.inr (.inr ⟨h1, by simp [h2, h3, h4]⟩)))

def TChk : List (Nat × Spec) := [(113, specKinds), (112, specReason), (97, specWhen), (96, specFirst), (95, fun
  | [.int .i64 x, .int .i64 lo, .int .i64 hi], h => some ⟨.bool (decide (x < lo) || decide (hi < x)), h, []⟩
  | _, _ => none)]
set_option maxHeartbeats 4000000 in
theorem w36 (hft : F = FT) (k : List UInt8) (v : Int) (r : List UInt8) : Run (mk0 TChk inv F) 36 [mkM k v r] [] ⟨.int .i64 (chk k v r), [], []⟩ := by
  refine run_of_W (show F 36 = _ from by rw [hft]; exact ft36) (by simp) ?_
  unfold b36
  simp only [List.map_cons, List.map_nil, List.getElem?_cons_zero, List.getElem?_cons_succ, List.getElem?_nil, Option.getD_some, Option.getD_none]
  rcases kind_cases k with rfl | rfl | rfl | rfl | ⟨h1, h2⟩
  · repeat' first | apply W.seq | apply SQn | apply W.region | apply WO.nil | apply W.block | apply W.ret | apply W.exit | apply W.skip | apply SQr | apply SQe | apply BQn | apply BQr | apply BQe | (apply BQo; exact rfl) | apply LQe | apply LQr | (apply W.drawro; exact rfl) | apply W.draw | apply WD.nil | (apply WD.gT; exact rfl) | (apply WD.gF; exact rfl) | (apply WD.sT; exact rfl) | (apply WD.sF; exact rfl) | (apply WD.sU; exact rfl) | (apply WD.pure1; exact rfl) | (apply WD.load1; exact rfl; exact rfl; exact rfl) | (apply WD.store1; exact rfl; exact rfl; exact rfl) | (apply WD.new1; exact rfl) | (apply WD.look1; exact rfl; exact rfl) | (apply WD.clb; exact rfl; exact rfl; exact rfl; exact rfl; all_goals first | (intro h; exact absurd h (by decide)) | intro _) | (apply WD.cl0; exact rfl; exact rfl; exact rfl; exact rfl) | (apply WD.cl1; exact rfl; exact rfl; exact rfl; exact rfl) | (apply W.condT; exact rfl) | (apply W.condF; exact rfl) | (apply W.cond; exact rfl; all_goals intro _) | (apply WO.eql; exact rfl; exact rfl; all_goals first | (intro _; exfalso; omega) | intro _) | (apply WO.neq; exact rfl; exact rfl; all_goals first | (intro _; exfalso; omega) | intro _) | (apply WO.seql; exact rfl; exact rfl; all_goals first | (intro h; exact absurd h (by decide)) | (intro h; exact absurd rfl h) | (intro h; contradiction) | intro _) | (apply WO.sneq; exact rfl; exact rfl; all_goals first | (intro h; exact absurd h (by decide)) | (intro h; exact absurd rfl h) | (intro h; contradiction) | intro _) | (apply WO.clb; exact rfl; exact rfl; exact rfl; all_goals first | (intro h; exact absurd h (by decide)) | intro _) | (apply WO.cll; exact rfl; exact rfl; exact rfl) | (apply WO.hlv; exact rfl; exact rfl; exact rfl) | (apply WO.hpv; exact rfl; exact rfl; exact rfl) | (apply WO.hnv; exact rfl; exact rfl; exact rfl) | (apply WO.pl; exact rfl; exact rfl) | (apply WO.pp; exact rfl; exact rfl)
    all_goals refine ⟨.inr rfl, rfl, _, rfl, congrArg (AV.int .i64) ?_, rfl⟩
    all_goals (by_cases hr : r ∈ reasons <;> simp_all [firstNZ, chk])
  · repeat' first | apply W.seq | apply SQn | apply W.region | apply WO.nil | apply W.block | apply W.ret | apply W.exit | apply W.skip | apply SQr | apply SQe | apply BQn | apply BQr | apply BQe | (apply BQo; exact rfl) | apply LQe | apply LQr | (apply W.drawro; exact rfl) | apply W.draw | apply WD.nil | (apply WD.gT; exact rfl) | (apply WD.gF; exact rfl) | (apply WD.sT; exact rfl) | (apply WD.sF; exact rfl) | (apply WD.sU; exact rfl) | (apply WD.pure1; exact rfl) | (apply WD.load1; exact rfl; exact rfl; exact rfl) | (apply WD.store1; exact rfl; exact rfl; exact rfl) | (apply WD.new1; exact rfl) | (apply WD.look1; exact rfl; exact rfl) | (apply WD.clb; exact rfl; exact rfl; exact rfl; exact rfl; all_goals first | (intro h; exact absurd h (by decide)) | intro _) | (apply WD.cl0; exact rfl; exact rfl; exact rfl; exact rfl) | (apply WD.cl1; exact rfl; exact rfl; exact rfl; exact rfl) | (apply W.condT; exact rfl) | (apply W.condF; exact rfl) | (apply W.cond; exact rfl; all_goals intro _) | (apply WO.eql; exact rfl; exact rfl; all_goals first | (intro _; exfalso; omega) | intro _) | (apply WO.neq; exact rfl; exact rfl; all_goals first | (intro _; exfalso; omega) | intro _) | (apply WO.seql; exact rfl; exact rfl; all_goals first | (intro h; exact absurd h (by decide)) | (intro h; exact absurd rfl h) | (intro h; contradiction) | intro _) | (apply WO.sneq; exact rfl; exact rfl; all_goals first | (intro h; exact absurd h (by decide)) | (intro h; exact absurd rfl h) | (intro h; contradiction) | intro _) | (apply WO.clb; exact rfl; exact rfl; exact rfl; all_goals first | (intro h; exact absurd h (by decide)) | intro _) | (apply WO.cll; exact rfl; exact rfl; exact rfl) | (apply WO.hlv; exact rfl; exact rfl; exact rfl) | (apply WO.hpv; exact rfl; exact rfl; exact rfl) | (apply WO.hnv; exact rfl; exact rfl; exact rfl) | (apply WO.pl; exact rfl; exact rfl) | (apply WO.pp; exact rfl; exact rfl)
    all_goals refine ⟨.inr rfl, rfl, _, rfl, congrArg (AV.int .i64) ?_, rfl⟩
    all_goals (by_cases hv : v < 1 ∨ 863999999 < v <;> simp_all [firstNZ, chk, known, kLeast, kMost] <;> omega)
  · repeat' first | apply W.seq | apply SQn | apply W.region | apply WO.nil | apply W.block | apply W.ret | apply W.exit | apply W.skip | apply SQr | apply SQe | apply BQn | apply BQr | apply BQe | (apply BQo; exact rfl) | apply LQe | apply LQr | (apply W.drawro; exact rfl) | apply W.draw | apply WD.nil | (apply WD.gT; exact rfl) | (apply WD.gF; exact rfl) | (apply WD.sT; exact rfl) | (apply WD.sF; exact rfl) | (apply WD.sU; exact rfl) | (apply WD.pure1; exact rfl) | (apply WD.load1; exact rfl; exact rfl; exact rfl) | (apply WD.store1; exact rfl; exact rfl; exact rfl) | (apply WD.new1; exact rfl) | (apply WD.look1; exact rfl; exact rfl) | (apply WD.clb; exact rfl; exact rfl; exact rfl; exact rfl; all_goals first | (intro h; exact absurd h (by decide)) | intro _) | (apply WD.cl0; exact rfl; exact rfl; exact rfl; exact rfl) | (apply WD.cl1; exact rfl; exact rfl; exact rfl; exact rfl) | (apply W.condT; exact rfl) | (apply W.condF; exact rfl) | (apply W.cond; exact rfl; all_goals intro _) | (apply WO.eql; exact rfl; exact rfl; all_goals first | (intro _; exfalso; omega) | intro _) | (apply WO.neq; exact rfl; exact rfl; all_goals first | (intro _; exfalso; omega) | intro _) | (apply WO.seql; exact rfl; exact rfl; all_goals first | (intro h; exact absurd h (by decide)) | (intro h; exact absurd rfl h) | (intro h; contradiction) | intro _) | (apply WO.sneq; exact rfl; exact rfl; all_goals first | (intro h; exact absurd h (by decide)) | (intro h; exact absurd rfl h) | (intro h; contradiction) | intro _) | (apply WO.clb; exact rfl; exact rfl; exact rfl; all_goals first | (intro h; exact absurd h (by decide)) | intro _) | (apply WO.cll; exact rfl; exact rfl; exact rfl) | (apply WO.hlv; exact rfl; exact rfl; exact rfl) | (apply WO.hpv; exact rfl; exact rfl; exact rfl) | (apply WO.hnv; exact rfl; exact rfl; exact rfl) | (apply WO.pl; exact rfl; exact rfl) | (apply WO.pp; exact rfl; exact rfl)
    all_goals refine ⟨.inr rfl, rfl, _, rfl, congrArg (AV.int .i64) ?_, rfl⟩
    all_goals (by_cases hv : v < 0 ∨ 999999 < v <;> simp_all [firstNZ, chk, known, kLeast, kMost] <;> omega)
  · repeat' first | apply W.seq | apply SQn | apply W.region | apply WO.nil | apply W.block | apply W.ret | apply W.exit | apply W.skip | apply SQr | apply SQe | apply BQn | apply BQr | apply BQe | (apply BQo; exact rfl) | apply LQe | apply LQr | (apply W.drawro; exact rfl) | apply W.draw | apply WD.nil | (apply WD.gT; exact rfl) | (apply WD.gF; exact rfl) | (apply WD.sT; exact rfl) | (apply WD.sF; exact rfl) | (apply WD.sU; exact rfl) | (apply WD.pure1; exact rfl) | (apply WD.load1; exact rfl; exact rfl; exact rfl) | (apply WD.store1; exact rfl; exact rfl; exact rfl) | (apply WD.new1; exact rfl) | (apply WD.look1; exact rfl; exact rfl) | (apply WD.clb; exact rfl; exact rfl; exact rfl; exact rfl; all_goals first | (intro h; exact absurd h (by decide)) | intro _) | (apply WD.cl0; exact rfl; exact rfl; exact rfl; exact rfl) | (apply WD.cl1; exact rfl; exact rfl; exact rfl; exact rfl) | (apply W.condT; exact rfl) | (apply W.condF; exact rfl) | (apply W.cond; exact rfl; all_goals intro _) | (apply WO.eql; exact rfl; exact rfl; all_goals first | (intro _; exfalso; omega) | intro _) | (apply WO.neq; exact rfl; exact rfl; all_goals first | (intro _; exfalso; omega) | intro _) | (apply WO.seql; exact rfl; exact rfl; all_goals first | (intro h; exact absurd h (by decide)) | (intro h; exact absurd rfl h) | (intro h; contradiction) | intro _) | (apply WO.sneq; exact rfl; exact rfl; all_goals first | (intro h; exact absurd h (by decide)) | (intro h; exact absurd rfl h) | (intro h; contradiction) | intro _) | (apply WO.clb; exact rfl; exact rfl; exact rfl; all_goals first | (intro h; exact absurd h (by decide)) | intro _) | (apply WO.cll; exact rfl; exact rfl; exact rfl) | (apply WO.hlv; exact rfl; exact rfl; exact rfl) | (apply WO.hpv; exact rfl; exact rfl; exact rfl) | (apply WO.hnv; exact rfl; exact rfl; exact rfl) | (apply WO.pl; exact rfl; exact rfl) | (apply WO.pp; exact rfl; exact rfl)
    all_goals refine ⟨.inr rfl, rfl, _, rfl, congrArg (AV.int .i64) ?_, rfl⟩
    all_goals (by_cases hv : v < 0 ∨ 99999 < v <;> simp_all [firstNZ, chk, known, kLeast, kMost] <;> omega)
  · simp only [known, not_or] at h2
    have b1 : (k == sTime) = false := beq_eq_false_iff_ne.2 h2.1
    have b2 : (k == sLength) = false := beq_eq_false_iff_ne.2 h2.2.1
    have b3 : (k == sPoints) = false := beq_eq_false_iff_ne.2 h2.2.2
    repeat' first | apply W.seq | apply SQn | apply W.region | apply WO.nil | apply W.block | apply W.ret | apply W.exit | apply W.skip | apply SQr | apply SQe | apply BQn | apply BQr | apply BQe | (apply BQo; exact rfl) | apply LQe | apply LQr | (apply W.drawro; exact rfl) | apply W.draw | apply WD.nil | (apply WD.gT; exact rfl) | (apply WD.gF; exact rfl) | (apply WD.sT; exact rfl) | (apply WD.sF; exact rfl) | (apply WD.sU; exact rfl) | (apply WD.pure1; exact rfl) | (apply WD.load1; exact rfl; exact rfl; exact rfl) | (apply WD.store1; exact rfl; exact rfl; exact rfl) | (apply WD.new1; exact rfl) | (apply WD.look1; exact rfl; exact rfl) | (apply WD.clb; exact rfl; exact rfl; exact rfl; exact rfl; all_goals first | (intro h; exact absurd h (by decide)) | intro _) | (apply WD.cl0; exact rfl; exact rfl; exact rfl; exact rfl) | (apply WD.cl1; exact rfl; exact rfl; exact rfl; exact rfl) | (apply W.condT; exact rfl) | (apply W.condF; exact rfl) | (apply W.cond; exact rfl; all_goals intro _) | (apply WO.eql; exact rfl; exact rfl; all_goals first | (intro _; exfalso; omega) | intro _) | (apply WO.neq; exact rfl; exact rfl; all_goals first | (intro _; exfalso; omega) | intro _) | (apply WO.lkN; exact rfl; exact rfl; exact rfl; exact rfl; simp only [findA, keyEq, b1, b2, b3]) | (apply WO.seql; exact rfl; exact rfl; all_goals first | (intro h; exact absurd h (by decide)) | (intro h; exact absurd rfl h) | (intro h; contradiction) | intro _) | (apply WO.sneq; exact rfl; exact rfl; all_goals first | (intro h; exact absurd h (by decide)) | (intro h; exact absurd rfl h) | (intro h; contradiction) | intro _) | (apply WO.clb; exact rfl; exact rfl; exact rfl; all_goals first | (intro h; exact absurd h (by decide)) | intro _) | (apply WO.cll; exact rfl; exact rfl; exact rfl) | (apply WO.hlv; exact rfl; exact rfl; exact rfl) | (apply WO.hpv; exact rfl; exact rfl; exact rfl) | (apply WO.hnv; exact rfl; exact rfl; exact rfl) | (apply WO.pl; exact rfl; exact rfl) | (apply WO.pp; exact rfl; exact rfl)
    all_goals refine ⟨.inr rfl, rfl, _, rfl, congrArg (AV.int .i64) ?_, rfl⟩
    all_goals simp [firstNZ, chk, known, h1, h2]

def specChk : Spec := fun
  | [.agg [.str k, .int .i64 v, .str r]], h => some ⟨.int .i64 (chk k v r), h, []⟩
  | _, _ => none

theorem w110 {T : List (Nat × Spec)} (hft : F = FT) (k : List UInt8) : Run (mk0 T inv F) 110 [.str k] [] ⟨.int .i64 (kLeast k), [], []⟩ := by
  refine run_of_W (show F 110 = _ from by rw [hft]; exact ft110) (by simp) ?_
  unfold b110
  simp only [List.map_cons, List.map_nil, List.getElem?_cons_zero, List.getElem?_cons_succ, List.getElem?_nil, Option.getD_some, Option.getD_none]
  repeat' first | apply W.seq | apply SQn | apply W.region | apply WO.nil | apply W.block | apply W.ret | apply W.exit | apply W.skip | apply SQr | apply SQe | apply BQn | apply BQr | apply BQe | (apply BQo; exact rfl) | apply LQe | apply LQr | (apply W.condT; exact rfl) | (apply W.condF; exact rfl) | (apply W.cond; exact rfl; all_goals intro _) | (apply WO.eql; exact rfl; exact rfl; all_goals first | (intro _; exfalso; omega) | intro _) | (apply WO.seql; exact rfl; exact rfl; all_goals first | (intro h; exact absurd h (by decide)) | (intro h; exact absurd rfl h) | (intro h; contradiction) | intro _) | (apply WO.pl; exact rfl; exact rfl) | (apply WO.pp; exact rfl; exact rfl)
  all_goals exact ⟨.inr rfl, rfl, _, rfl, by simp [tupA, kLeast, *], rfl⟩
theorem w111 {T : List (Nat × Spec)} (hft : F = FT) (k : List UInt8) : Run (mk0 T inv F) 111 [.str k] [] ⟨.int .i64 (kMost k), [], []⟩ := by
  refine run_of_W (show F 111 = _ from by rw [hft]; exact ft111) (by simp) ?_
  unfold b111
  simp only [List.map_cons, List.map_nil, List.getElem?_cons_zero, List.getElem?_cons_succ, List.getElem?_nil, Option.getD_some, Option.getD_none]
  repeat' first | apply W.seq | apply SQn | apply W.region | apply WO.nil | apply W.block | apply W.ret | apply W.exit | apply W.skip | apply SQr | apply SQe | apply BQn | apply BQr | apply BQe | (apply BQo; exact rfl) | apply LQe | apply LQr | (apply W.condT; exact rfl) | (apply W.condF; exact rfl) | (apply W.cond; exact rfl; all_goals intro _) | (apply WO.eql; exact rfl; exact rfl; all_goals first | (intro _; exfalso; omega) | intro _) | (apply WO.seql; exact rfl; exact rfl; all_goals first | (intro h; exact absurd h (by decide)) | (intro h; exact absurd rfl h) | (intro h; contradiction) | intro _) | (apply WO.pl; exact rfl; exact rfl) | (apply WO.pp; exact rfl; exact rfl)
  all_goals exact ⟨.inr rfl, rfl, _, rfl, by simp [tupA, kMost, *], rfl⟩
def TRefChk : List (Nat × Spec) := [(109, specReason), (110, fun
  | [.str k], h => some ⟨.int .i64 (kLeast k), h, []⟩
  | _, _ => none), (111, fun
  | [.str k], h => some ⟨.int .i64 (kMost k), h, []⟩
  | _, _ => none)]
set_option maxHeartbeats 4000000 in
theorem w35 (hft : F = FT) (k : List UInt8) (v : Int) (r : List UInt8) : Run (mk0 TRefChk inv F) 35 [mkM k v r] [] ⟨.int .i64 (chk k v r), [], []⟩ := by
  refine run_of_W (show F 35 = _ from by rw [hft]; exact ft35) (by simp) ?_
  unfold b35
  simp only [List.map_cons, List.map_nil, List.getElem?_cons_zero, List.getElem?_cons_succ, List.getElem?_nil, Option.getD_some, Option.getD_none]
  rcases kind_cases k with rfl | rfl | rfl | rfl | ⟨h1, h2⟩
  · repeat' first | apply W.seq | apply SQn | apply W.region | apply WO.nil | apply W.block | apply W.ret | apply W.exit | apply W.skip | apply SQr | apply SQe | apply BQn | apply BQr | apply BQe | (apply BQo; exact rfl) | apply LQe | apply LQr | (apply W.drawro; exact rfl) | apply W.draw | apply WD.nil | (apply WD.gT; exact rfl) | (apply WD.gF; exact rfl) | (apply WD.sT; exact rfl) | (apply WD.sF; exact rfl) | (apply WD.sU; exact rfl) | (apply WD.pure1; exact rfl) | (apply WD.load1; exact rfl; exact rfl; exact rfl) | (apply WD.new1; exact rfl) | (apply WD.clb; exact rfl; exact rfl; exact rfl; exact rfl; all_goals first | (intro h; exact absurd h (by decide)) | intro _) | (apply WD.cl0; exact rfl; exact rfl; exact rfl; exact rfl) | (apply WD.cl1; exact rfl; exact rfl; exact rfl; exact rfl) | (apply W.condT; exact rfl) | (apply W.condF; exact rfl) | (apply W.cond; exact rfl; all_goals intro _) | (apply WO.gT; exact rfl) | (apply WO.gF; exact rfl) | (apply WO.sT; exact rfl) | (apply WO.sF; exact rfl) | (apply WO.sU; exact rfl) | (apply WO.lss; exact rfl; exact rfl; all_goals first | (intro _; exfalso; omega) | intro _) | (apply WO.gtr; exact rfl; exact rfl; all_goals first | (intro _; exfalso; omega) | intro _) | (apply WO.eql; exact rfl; exact rfl; all_goals first | (intro _; exfalso; omega) | intro _) | (apply WO.neq; exact rfl; exact rfl; all_goals first | (intro _; exfalso; omega) | intro _) | (apply WO.pkT; exact rfl; exact rfl) | (apply WO.pkF; exact rfl; exact rfl) | (apply WO.seql; exact rfl; exact rfl; all_goals first | (intro h; exact absurd h (by decide)) | (intro h; exact absurd rfl h) | (intro h; contradiction) | intro _) | (apply WO.sneq; exact rfl; exact rfl; all_goals first | (intro h; exact absurd h (by decide)) | (intro h; exact absurd rfl h) | (intro h; contradiction) | intro _) | (apply WO.clb; exact rfl; exact rfl; exact rfl; all_goals first | (intro h; exact absurd h (by decide)) | intro _) | (apply WO.cll; exact rfl; exact rfl; exact rfl) | (apply WO.hlv; exact rfl; exact rfl; exact rfl) | (apply WO.hpv; exact rfl; exact rfl; exact rfl) | (apply WO.hnv; exact rfl; exact rfl; exact rfl) | (apply WO.pl; exact rfl; exact rfl) | (apply WO.pp; exact rfl; exact rfl)
    all_goals refine ⟨.inr rfl, rfl, _, rfl, congrArg (AV.int .i64) ?_, rfl⟩
    all_goals simp_all [chk]
  · repeat' first | apply W.seq | apply SQn | apply W.region | apply WO.nil | apply W.block | apply W.ret | apply W.exit | apply W.skip | apply SQr | apply SQe | apply BQn | apply BQr | apply BQe | (apply BQo; exact rfl) | apply LQe | apply LQr | (apply W.drawro; exact rfl) | apply W.draw | apply WD.nil | (apply WD.gT; exact rfl) | (apply WD.gF; exact rfl) | (apply WD.sT; exact rfl) | (apply WD.sF; exact rfl) | (apply WD.sU; exact rfl) | (apply WD.pure1; exact rfl) | (apply WD.load1; exact rfl; exact rfl; exact rfl) | (apply WD.new1; exact rfl) | (apply WD.clb; exact rfl; exact rfl; exact rfl; exact rfl; all_goals first | (intro h; exact absurd h (by decide)) | intro _) | (apply WD.cl0; exact rfl; exact rfl; exact rfl; exact rfl) | (apply WD.cl1; exact rfl; exact rfl; exact rfl; exact rfl) | (apply W.condT; exact rfl) | (apply W.condF; exact rfl) | (apply W.cond; exact rfl; all_goals intro _) | (apply WO.gT; exact rfl) | (apply WO.gF; exact rfl) | (apply WO.sT; exact rfl) | (apply WO.sF; exact rfl) | (apply WO.sU; exact rfl) | (apply WO.lss; exact rfl; exact rfl; all_goals first | (intro _; exfalso; omega) | intro _) | (apply WO.gtr; exact rfl; exact rfl; all_goals first | (intro _; exfalso; omega) | intro _) | (apply WO.eql; exact rfl; exact rfl; all_goals first | (intro _; exfalso; omega) | intro _) | (apply WO.neq; exact rfl; exact rfl; all_goals first | (intro _; exfalso; omega) | intro _) | (apply WO.pkT; exact rfl; exact rfl) | (apply WO.pkF; exact rfl; exact rfl) | (apply WO.seql; exact rfl; exact rfl; all_goals first | (intro h; exact absurd h (by decide)) | (intro h; exact absurd rfl h) | (intro h; contradiction) | intro _) | (apply WO.sneq; exact rfl; exact rfl; all_goals first | (intro h; exact absurd h (by decide)) | (intro h; exact absurd rfl h) | (intro h; contradiction) | intro _) | (apply WO.clb; exact rfl; exact rfl; exact rfl; all_goals first | (intro h; exact absurd h (by decide)) | intro _) | (apply WO.cll; exact rfl; exact rfl; exact rfl) | (apply WO.hlv; exact rfl; exact rfl; exact rfl) | (apply WO.hpv; exact rfl; exact rfl; exact rfl) | (apply WO.hnv; exact rfl; exact rfl; exact rfl) | (apply WO.pl; exact rfl; exact rfl) | (apply WO.pp; exact rfl; exact rfl)
    all_goals refine ⟨.inr rfl, rfl, _, rfl, congrArg (AV.int .i64) ?_, rfl⟩
    all_goals simp_all [chk, known, kLeast, kMost]
    all_goals omega
  · repeat' first | apply W.seq | apply SQn | apply W.region | apply WO.nil | apply W.block | apply W.ret | apply W.exit | apply W.skip | apply SQr | apply SQe | apply BQn | apply BQr | apply BQe | (apply BQo; exact rfl) | apply LQe | apply LQr | (apply W.drawro; exact rfl) | apply W.draw | apply WD.nil | (apply WD.gT; exact rfl) | (apply WD.gF; exact rfl) | (apply WD.sT; exact rfl) | (apply WD.sF; exact rfl) | (apply WD.sU; exact rfl) | (apply WD.pure1; exact rfl) | (apply WD.load1; exact rfl; exact rfl; exact rfl) | (apply WD.new1; exact rfl) | (apply WD.clb; exact rfl; exact rfl; exact rfl; exact rfl; all_goals first | (intro h; exact absurd h (by decide)) | intro _) | (apply WD.cl0; exact rfl; exact rfl; exact rfl; exact rfl) | (apply WD.cl1; exact rfl; exact rfl; exact rfl; exact rfl) | (apply W.condT; exact rfl) | (apply W.condF; exact rfl) | (apply W.cond; exact rfl; all_goals intro _) | (apply WO.gT; exact rfl) | (apply WO.gF; exact rfl) | (apply WO.sT; exact rfl) | (apply WO.sF; exact rfl) | (apply WO.sU; exact rfl) | (apply WO.lss; exact rfl; exact rfl; all_goals first | (intro _; exfalso; omega) | intro _) | (apply WO.gtr; exact rfl; exact rfl; all_goals first | (intro _; exfalso; omega) | intro _) | (apply WO.eql; exact rfl; exact rfl; all_goals first | (intro _; exfalso; omega) | intro _) | (apply WO.neq; exact rfl; exact rfl; all_goals first | (intro _; exfalso; omega) | intro _) | (apply WO.pkT; exact rfl; exact rfl) | (apply WO.pkF; exact rfl; exact rfl) | (apply WO.seql; exact rfl; exact rfl; all_goals first | (intro h; exact absurd h (by decide)) | (intro h; exact absurd rfl h) | (intro h; contradiction) | intro _) | (apply WO.sneq; exact rfl; exact rfl; all_goals first | (intro h; exact absurd h (by decide)) | (intro h; exact absurd rfl h) | (intro h; contradiction) | intro _) | (apply WO.clb; exact rfl; exact rfl; exact rfl; all_goals first | (intro h; exact absurd h (by decide)) | intro _) | (apply WO.cll; exact rfl; exact rfl; exact rfl) | (apply WO.hlv; exact rfl; exact rfl; exact rfl) | (apply WO.hpv; exact rfl; exact rfl; exact rfl) | (apply WO.hnv; exact rfl; exact rfl; exact rfl) | (apply WO.pl; exact rfl; exact rfl) | (apply WO.pp; exact rfl; exact rfl)
    all_goals refine ⟨.inr rfl, rfl, _, rfl, congrArg (AV.int .i64) ?_, rfl⟩
    all_goals simp_all [chk, known, kLeast, kMost]
    all_goals omega
  · repeat' first | apply W.seq | apply SQn | apply W.region | apply WO.nil | apply W.block | apply W.ret | apply W.exit | apply W.skip | apply SQr | apply SQe | apply BQn | apply BQr | apply BQe | (apply BQo; exact rfl) | apply LQe | apply LQr | (apply W.drawro; exact rfl) | apply W.draw | apply WD.nil | (apply WD.gT; exact rfl) | (apply WD.gF; exact rfl) | (apply WD.sT; exact rfl) | (apply WD.sF; exact rfl) | (apply WD.sU; exact rfl) | (apply WD.pure1; exact rfl) | (apply WD.load1; exact rfl; exact rfl; exact rfl) | (apply WD.new1; exact rfl) | (apply WD.clb; exact rfl; exact rfl; exact rfl; exact rfl; all_goals first | (intro h; exact absurd h (by decide)) | intro _) | (apply WD.cl0; exact rfl; exact rfl; exact rfl; exact rfl) | (apply WD.cl1; exact rfl; exact rfl; exact rfl; exact rfl) | (apply W.condT; exact rfl) | (apply W.condF; exact rfl) | (apply W.cond; exact rfl; all_goals intro _) | (apply WO.gT; exact rfl) | (apply WO.gF; exact rfl) | (apply WO.sT; exact rfl) | (apply WO.sF; exact rfl) | (apply WO.sU; exact rfl) | (apply WO.lss; exact rfl; exact rfl; all_goals first | (intro _; exfalso; omega) | intro _) | (apply WO.gtr; exact rfl; exact rfl; all_goals first | (intro _; exfalso; omega) | intro _) | (apply WO.eql; exact rfl; exact rfl; all_goals first | (intro _; exfalso; omega) | intro _) | (apply WO.neq; exact rfl; exact rfl; all_goals first | (intro _; exfalso; omega) | intro _) | (apply WO.pkT; exact rfl; exact rfl) | (apply WO.pkF; exact rfl; exact rfl) | (apply WO.seql; exact rfl; exact rfl; all_goals first | (intro h; exact absurd h (by decide)) | (intro h; exact absurd rfl h) | (intro h; contradiction) | intro _) | (apply WO.sneq; exact rfl; exact rfl; all_goals first | (intro h; exact absurd h (by decide)) | (intro h; exact absurd rfl h) | (intro h; contradiction) | intro _) | (apply WO.clb; exact rfl; exact rfl; exact rfl; all_goals first | (intro h; exact absurd h (by decide)) | intro _) | (apply WO.cll; exact rfl; exact rfl; exact rfl) | (apply WO.hlv; exact rfl; exact rfl; exact rfl) | (apply WO.hpv; exact rfl; exact rfl; exact rfl) | (apply WO.hnv; exact rfl; exact rfl; exact rfl) | (apply WO.pl; exact rfl; exact rfl) | (apply WO.pp; exact rfl; exact rfl)
    all_goals refine ⟨.inr rfl, rfl, _, rfl, congrArg (AV.int .i64) ?_, rfl⟩
    all_goals simp_all [chk, known, kLeast, kMost]
    all_goals omega
  · simp only [known, not_or] at h2
    repeat' first | apply W.seq | apply SQn | apply W.region | apply WO.nil | apply W.block | apply W.ret | apply W.exit | apply W.skip | apply SQr | apply SQe | apply BQn | apply BQr | apply BQe | (apply BQo; exact rfl) | apply LQe | apply LQr | (apply W.drawro; exact rfl) | apply W.draw | apply WD.nil | (apply WD.gT; exact rfl) | (apply WD.gF; exact rfl) | (apply WD.sT; exact rfl) | (apply WD.sF; exact rfl) | (apply WD.sU; exact rfl) | (apply WD.pure1; exact rfl) | (apply WD.load1; exact rfl; exact rfl; exact rfl) | (apply WD.new1; exact rfl) | (apply WD.clb; exact rfl; exact rfl; exact rfl; exact rfl; all_goals first | (intro h; exact absurd h (by decide)) | intro _) | (apply WD.cl0; exact rfl; exact rfl; exact rfl; exact rfl) | (apply WD.cl1; exact rfl; exact rfl; exact rfl; exact rfl) | (apply W.condT; exact rfl) | (apply W.condF; exact rfl) | (apply W.cond; exact rfl; all_goals intro _) | (apply WO.gT; exact rfl) | (apply WO.gF; exact rfl) | (apply WO.sT; exact rfl) | (apply WO.sF; exact rfl) | (apply WO.sU; exact rfl) | (apply WO.lss; exact rfl; exact rfl; all_goals first | (intro _; exfalso; omega) | intro _) | (apply WO.gtr; exact rfl; exact rfl; all_goals first | (intro _; exfalso; omega) | intro _) | (apply WO.eql; exact rfl; exact rfl; all_goals first | (intro _; exfalso; omega) | intro _) | (apply WO.neq; exact rfl; exact rfl; all_goals first | (intro _; exfalso; omega) | intro _) | (apply WO.pkT; exact rfl; exact rfl) | (apply WO.pkF; exact rfl; exact rfl) | (apply WO.seql; exact rfl; exact rfl; all_goals first | (intro h; exact absurd h (by decide)) | (intro h; exact absurd rfl h) | (intro h; contradiction) | intro _) | (apply WO.sneq; exact rfl; exact rfl; all_goals first | (intro h; exact absurd h (by decide)) | (intro h; exact absurd rfl h) | (intro h; contradiction) | intro _) | (apply WO.clb; exact rfl; exact rfl; exact rfl; all_goals first | (intro h; exact absurd h (by decide)) | intro _) | (apply WO.cll; exact rfl; exact rfl; exact rfl) | (apply WO.hlv; exact rfl; exact rfl; exact rfl) | (apply WO.hpv; exact rfl; exact rfl; exact rfl) | (apply WO.hnv; exact rfl; exact rfl; exact rfl) | (apply WO.pl; exact rfl; exact rfl) | (apply WO.pp; exact rfl; exact rfl)
    all_goals refine ⟨.inr rfl, rfl, _, rfl, congrArg (AV.int .i64) ?_, rfl⟩
    all_goals simp_all [chk, known]

/-- What a mark is worth. -/
def worth (k : List UInt8) (v : Int) : Int := if k = sTime then IntKind.i64.wrap (0 - v) else if known k then v else -864000000
def specWorth : Spec := fun
  | [.agg [.str k, .int .i64 v, .str _]], h => some ⟨.int .i64 (worth k v), h, []⟩
  | _, _ => none
def TKinds : List (Nat × Spec) := [(113, specKinds)]
set_option maxHeartbeats 4000000 in
theorem w184 (hft : F = FT) (k : List UInt8) (v : Int) (r : List UInt8) : Run (mk0 TKinds inv F) 184 [mkM k v r] [] ⟨.int .i64 (worth k v), [], []⟩ := by
  refine run_of_W (show F 184 = _ from by rw [hft]; exact ft184) (by simp) ?_
  unfold b184
  simp only [List.map_cons, List.map_nil, List.getElem?_cons_zero, List.getElem?_cons_succ, List.getElem?_nil, Option.getD_some, Option.getD_none]
  rcases kind_cases k with rfl | rfl | rfl | rfl | ⟨h1, h2⟩
  · repeat' first | apply W.seq | apply SQn | apply W.region | apply WO.nil | apply W.block | apply W.ret | apply W.exit | apply W.skip | apply SQr | apply SQe | apply BQn | apply BQr | apply BQe | (apply BQo; exact rfl) | apply LQe | apply LQr | (apply W.drawro; exact rfl) | apply W.draw | apply WD.nil | (apply WD.gT; exact rfl) | (apply WD.gF; exact rfl) | (apply WD.sT; exact rfl) | (apply WD.sF; exact rfl) | (apply WD.sU; exact rfl) | (apply WD.pure1; exact rfl) | (apply WD.load1; exact rfl; exact rfl; exact rfl) | (apply WD.store1; exact rfl; exact rfl; exact rfl) | (apply WD.new1; exact rfl) | (apply WD.look1; exact rfl; exact rfl) | (apply WD.clb; exact rfl; exact rfl; exact rfl; exact rfl; all_goals first | (intro h; exact absurd h (by decide)) | intro _) | (apply WD.cl0; exact rfl; exact rfl; exact rfl; exact rfl) | (apply WD.cl1; exact rfl; exact rfl; exact rfl; exact rfl) | (apply W.condT; exact rfl) | (apply W.condF; exact rfl) | (apply W.cond; exact rfl; all_goals intro _) | (apply WO.lkN; exact rfl; exact rfl; exact rfl; exact rfl; exact rfl) | (apply WO.clb; exact rfl; exact rfl; exact rfl; all_goals first | (intro h; exact absurd h (by decide)) | intro _) | (apply WO.cll; exact rfl; exact rfl; exact rfl) | (apply WO.neg; exact rfl; omega) | (apply WO.hlv; exact rfl; exact rfl; exact rfl) | (apply WO.hpv; exact rfl; exact rfl; exact rfl) | (apply WO.hnv; exact rfl; exact rfl; exact rfl) | (apply WO.pl; exact rfl; exact rfl) | (apply WO.pp; exact rfl; exact rfl)
    exact ⟨.inr rfl, rfl, _, rfl, rfl, rfl⟩
  · repeat' first | apply W.seq | apply SQn | apply W.region | apply WO.nil | apply W.block | apply W.ret | apply W.exit | apply W.skip | apply SQr | apply SQe | apply BQn | apply BQr | apply BQe | (apply BQo; exact rfl) | apply LQe | apply LQr | (apply W.drawro; exact rfl) | apply W.draw | apply WD.nil | (apply WD.gT; exact rfl) | (apply WD.gF; exact rfl) | (apply WD.sT; exact rfl) | (apply WD.sF; exact rfl) | (apply WD.sU; exact rfl) | (apply WD.pure1; exact rfl) | (apply WD.load1; exact rfl; exact rfl; exact rfl) | (apply WD.store1; exact rfl; exact rfl; exact rfl) | (apply WD.new1; exact rfl) | (apply WD.look1; exact rfl; exact rfl) | (apply WD.clb; exact rfl; exact rfl; exact rfl; exact rfl; all_goals first | (intro h; exact absurd h (by decide)) | intro _) | (apply WD.cl0; exact rfl; exact rfl; exact rfl; exact rfl) | (apply WD.cl1; exact rfl; exact rfl; exact rfl; exact rfl) | (apply W.condT; exact rfl) | (apply W.condF; exact rfl) | (apply W.cond; exact rfl; all_goals intro _) | (apply WO.clb; exact rfl; exact rfl; exact rfl; all_goals first | (intro h; exact absurd h (by decide)) | intro _) | (apply WO.cll; exact rfl; exact rfl; exact rfl) | (apply WO.neg; exact rfl; omega) | (apply WO.hlv; exact rfl; exact rfl; exact rfl) | (apply WO.hpv; exact rfl; exact rfl; exact rfl) | (apply WO.hnv; exact rfl; exact rfl; exact rfl) | (apply WO.pl; exact rfl; exact rfl) | (apply WO.pp; exact rfl; exact rfl)
    exact ⟨.inr rfl, rfl, _, rfl, rfl, rfl⟩
  · repeat' first | apply W.seq | apply SQn | apply W.region | apply WO.nil | apply W.block | apply W.ret | apply W.exit | apply W.skip | apply SQr | apply SQe | apply BQn | apply BQr | apply BQe | (apply BQo; exact rfl) | apply LQe | apply LQr | (apply W.drawro; exact rfl) | apply W.draw | apply WD.nil | (apply WD.gT; exact rfl) | (apply WD.gF; exact rfl) | (apply WD.sT; exact rfl) | (apply WD.sF; exact rfl) | (apply WD.sU; exact rfl) | (apply WD.pure1; exact rfl) | (apply WD.load1; exact rfl; exact rfl; exact rfl) | (apply WD.store1; exact rfl; exact rfl; exact rfl) | (apply WD.new1; exact rfl) | (apply WD.look1; exact rfl; exact rfl) | (apply WD.clb; exact rfl; exact rfl; exact rfl; exact rfl; all_goals first | (intro h; exact absurd h (by decide)) | intro _) | (apply WD.cl0; exact rfl; exact rfl; exact rfl; exact rfl) | (apply WD.cl1; exact rfl; exact rfl; exact rfl; exact rfl) | (apply W.condT; exact rfl) | (apply W.condF; exact rfl) | (apply W.cond; exact rfl; all_goals intro _) | (apply WO.clb; exact rfl; exact rfl; exact rfl; all_goals first | (intro h; exact absurd h (by decide)) | intro _) | (apply WO.cll; exact rfl; exact rfl; exact rfl) | (apply WO.neg; exact rfl; omega) | (apply WO.hlv; exact rfl; exact rfl; exact rfl) | (apply WO.hpv; exact rfl; exact rfl; exact rfl) | (apply WO.hnv; exact rfl; exact rfl; exact rfl) | (apply WO.pl; exact rfl; exact rfl) | (apply WO.pp; exact rfl; exact rfl)
    exact ⟨.inr rfl, rfl, _, rfl, rfl, rfl⟩
  · repeat' first | apply W.seq | apply SQn | apply W.region | apply WO.nil | apply W.block | apply W.ret | apply W.exit | apply W.skip | apply SQr | apply SQe | apply BQn | apply BQr | apply BQe | (apply BQo; exact rfl) | apply LQe | apply LQr | (apply W.drawro; exact rfl) | apply W.draw | apply WD.nil | (apply WD.gT; exact rfl) | (apply WD.gF; exact rfl) | (apply WD.sT; exact rfl) | (apply WD.sF; exact rfl) | (apply WD.sU; exact rfl) | (apply WD.pure1; exact rfl) | (apply WD.load1; exact rfl; exact rfl; exact rfl) | (apply WD.store1; exact rfl; exact rfl; exact rfl) | (apply WD.new1; exact rfl) | (apply WD.look1; exact rfl; exact rfl) | (apply WD.clb; exact rfl; exact rfl; exact rfl; exact rfl; all_goals first | (intro h; exact absurd h (by decide)) | intro _) | (apply WD.cl0; exact rfl; exact rfl; exact rfl; exact rfl) | (apply WD.cl1; exact rfl; exact rfl; exact rfl; exact rfl) | (apply W.condT; exact rfl) | (apply W.condF; exact rfl) | (apply W.cond; exact rfl; all_goals intro _) | (apply WO.clb; exact rfl; exact rfl; exact rfl; all_goals first | (intro h; exact absurd h (by decide)) | intro _) | (apply WO.cll; exact rfl; exact rfl; exact rfl) | (apply WO.neg; exact rfl; omega) | (apply WO.hlv; exact rfl; exact rfl; exact rfl) | (apply WO.hpv; exact rfl; exact rfl; exact rfl) | (apply WO.hnv; exact rfl; exact rfl; exact rfl) | (apply WO.pl; exact rfl; exact rfl) | (apply WO.pp; exact rfl; exact rfl)
    exact ⟨.inr rfl, rfl, _, rfl, rfl, rfl⟩
  · simp only [known, not_or] at h2
    have b1 : (k == sTime) = false := beq_eq_false_iff_ne.2 h2.1
    have b2 : (k == sLength) = false := beq_eq_false_iff_ne.2 h2.2.1
    have b3 : (k == sPoints) = false := beq_eq_false_iff_ne.2 h2.2.2
    repeat' first | apply W.seq | apply SQn | apply W.region | apply WO.nil | apply W.block | apply W.ret | apply W.exit | apply W.skip | apply SQr | apply SQe | apply BQn | apply BQr | apply BQe | (apply BQo; exact rfl) | apply LQe | apply LQr | (apply W.drawro; exact rfl) | apply W.draw | apply WD.nil | (apply WD.gT; exact rfl) | (apply WD.gF; exact rfl) | (apply WD.sT; exact rfl) | (apply WD.sF; exact rfl) | (apply WD.sU; exact rfl) | (apply WD.pure1; exact rfl) | (apply WD.load1; exact rfl; exact rfl; exact rfl) | (apply WD.store1; exact rfl; exact rfl; exact rfl) | (apply WD.new1; exact rfl) | (apply WD.look1; exact rfl; exact rfl) | (apply WD.clb; exact rfl; exact rfl; exact rfl; exact rfl; all_goals first | (intro h; exact absurd h (by decide)) | intro _) | (apply WD.cl0; exact rfl; exact rfl; exact rfl; exact rfl) | (apply WD.cl1; exact rfl; exact rfl; exact rfl; exact rfl) | (apply W.condT; exact rfl) | (apply W.condF; exact rfl) | (apply W.cond; exact rfl; all_goals intro _) | (apply WO.lkN; exact rfl; exact rfl; exact rfl; exact rfl; simp only [findA, keyEq, b1, b2, b3]) | (apply WO.clb; exact rfl; exact rfl; exact rfl; all_goals first | (intro h; exact absurd h (by decide)) | intro _) | (apply WO.cll; exact rfl; exact rfl; exact rfl) | (apply WO.neg; exact rfl; omega) | (apply WO.hlv; exact rfl; exact rfl; exact rfl) | (apply WO.hpv; exact rfl; exact rfl; exact rfl) | (apply WO.hnv; exact rfl; exact rfl; exact rfl) | (apply WO.pl; exact rfl; exact rfl) | (apply WO.pp; exact rfl; exact rfl)
    exact ⟨.inr rfl, rfl, _, rfl, congrArg (AV.int .i64) (by simp [worth, known, h2]), rfl⟩

/-- -1 as the first number is greater. -/
def cmpW (x y : Int) : Int := if y < x then -1 else if x < y then 1 else 0
def specCmp : Spec := fun
  | [.agg [.str k, .int .i64 v, .str _], .agg [.str k', .int .i64 v', .str _]], h => some ⟨.int .i64 (cmpW (worth k v) (worth k' v')), h, []⟩
  | _, _ => none
def TCmp : List (Nat × Spec) := [(184, specWorth)]
theorem w115 (hft : F = FT) (k : List UInt8) (v : Int) (r : List UInt8) (k' : List UInt8) (v' : Int) (r' : List UInt8) : Run (mk0 TCmp inv F) 115 [mkM k v r, mkM k' v' r'] [] ⟨.int .i64 (cmpW (worth k v) (worth k' v')), [], []⟩ := by
  refine run_of_W (show F 115 = _ from by rw [hft]; exact ft115) (by simp) ?_
  unfold b115
  simp only [List.map_cons, List.map_nil, List.getElem?_cons_zero, List.getElem?_cons_succ, List.getElem?_nil, Option.getD_some, Option.getD_none]
  repeat' first | apply W.seq | apply SQn | apply W.region | apply WO.nil | apply W.block | apply W.ret | apply W.exit | apply W.skip | apply SQr | apply SQe | apply BQn | apply BQr | apply BQe | (apply BQo; exact rfl) | apply LQe | apply LQr | (apply W.drawro; exact rfl) | apply W.draw | apply WD.nil | (apply WD.gT; exact rfl) | (apply WD.gF; exact rfl) | (apply WD.sT; exact rfl) | (apply WD.sF; exact rfl) | (apply WD.sU; exact rfl) | (apply WD.pure1; exact rfl) | (apply WD.load1; exact rfl; exact rfl; exact rfl) | (apply WD.new1; exact rfl) | (apply WD.clb; exact rfl; exact rfl; exact rfl; exact rfl; all_goals first | (intro h; exact absurd h (by decide)) | intro _) | (apply WD.cl0; exact rfl; exact rfl; exact rfl; exact rfl) | (apply WD.cl1; exact rfl; exact rfl; exact rfl; exact rfl) | (apply W.condT; exact rfl) | (apply W.condF; exact rfl) | (apply W.cond; exact rfl; all_goals intro _) | (apply WO.lss; exact rfl; exact rfl; all_goals first | (intro _; exfalso; omega) | intro _) | (apply WO.gtr; exact rfl; exact rfl; all_goals first | (intro _; exfalso; omega) | intro _) | (apply WO.clb; exact rfl; exact rfl; exact rfl; all_goals first | (intro h; exact absurd h (by decide)) | intro _) | (apply WO.cll; exact rfl; exact rfl; exact rfl) | (apply WO.hlv; exact rfl; exact rfl; exact rfl) | (apply WO.hpv; exact rfl; exact rfl; exact rfl) | (apply WO.hnv; exact rfl; exact rfl; exact rfl) | (apply WO.pl; exact rfl; exact rfl) | (apply WO.pp; exact rfl; exact rfl)
  all_goals refine ⟨.inr rfl, rfl, _, rfl, congrArg (AV.int .i64) ?_, rfl⟩
  all_goals unfold cmpW
  · rw [if_pos (by assumption)]
  · rw [if_neg (by omega), if_pos (by assumption)]
  · rw [if_neg (by omega), if_neg (by omega)]

def differ (k k' : List UInt8) : Bool := decide (k ≠ k' ∧ k ≠ sNone ∧ k' ≠ sNone)
def specDiffer : Spec := fun
  | [.agg [.str k, .int .i64 _, .str _], .agg [.str k', .int .i64 _, .str _]], h => some ⟨.bool (differ k k'), h, []⟩
  | _, _ => none
theorem w114 {T : List (Nat × Spec)} (hft : F = FT) (k : List UInt8) (v : Int) (r : List UInt8) (k' : List UInt8) (v' : Int) (r' : List UInt8) : Run (mk0 T inv F) 114 [mkM k v r, mkM k' v' r'] [] ⟨.bool (differ k k'), [], []⟩ := by
  refine run_of_W (show F 114 = _ from by rw [hft]; exact ft114) (by simp) ?_
  unfold b114
  simp only [List.map_cons, List.map_nil, List.getElem?_cons_zero, List.getElem?_cons_succ, List.getElem?_nil, Option.getD_some, Option.getD_none]
  repeat' first | apply W.seq | apply SQn | apply W.region | apply WO.nil | apply W.block | apply W.ret | apply W.exit | apply W.skip | apply SQr | apply SQe | apply BQn | apply BQr | apply BQe | (apply BQo; exact rfl) | apply LQe | apply LQr | (apply W.condT; exact rfl) | (apply W.condF; exact rfl) | (apply W.cond; exact rfl; all_goals intro _) | (apply WO.gT; exact rfl) | (apply WO.gF; exact rfl) | (apply WO.sT; exact rfl) | (apply WO.sF; exact rfl) | (apply WO.sU; exact rfl) | (apply WO.neq; exact rfl; exact rfl; all_goals first | (intro _; exfalso; omega) | intro _) | (apply WO.pkT; exact rfl; exact rfl) | (apply WO.pkF; exact rfl; exact rfl) | (apply WO.sneq; exact rfl; exact rfl; all_goals first | (intro h; exact absurd h (by decide)) | (intro h; exact absurd rfl h) | (intro h; contradiction) | intro _) | (apply WO.hlv; exact rfl; exact rfl; exact rfl) | (apply WO.hpv; exact rfl; exact rfl; exact rfl) | (apply WO.hnv; exact rfl; exact rfl; exact rfl) | (apply WO.pl; exact rfl; exact rfl) | (apply WO.pp; exact rfl; exact rfl)
  all_goals exact ⟨.inr rfl, rfl, _, rfl, congrArg AV.bool (by simp_all [differ]), rfl⟩

/-- The error of a comparison. -/
def cmpE (k : List UInt8) (v : Int) (r : List UInt8) (k' : List UInt8) (v' : Int) (r' : List UInt8) : Int := firstNZ [chk k v r, chk k' v' r', if differ k k' then 13 else 0]
def specCompare : Spec := fun
  | [.agg [.str k, .int .i64 v, .str r], .agg [.str k', .int .i64 v', .str r']], h =>
    some ⟨.tup [.int .i64 (if cmpE k v r k' v' r' ≠ 0 then 0 else cmpW (worth k v) (worth k' v')), .int .i64 (cmpE k v r k' v' r')], h, []⟩
  | _, _ => none
def TCompare : List (Nat × Spec) := [(36, specChk), (114, specDiffer), (97, specWhen), (96, specFirst), (115, specCmp)]
set_option maxHeartbeats 4000000 in
theorem w37 (hft : F = FT) (k : List UInt8) (v : Int) (r : List UInt8) (k' : List UInt8) (v' : Int) (r' : List UInt8) : Run (mk0 TCompare inv F) 37 [mkM k v r, mkM k' v' r'] [] ⟨.tup [.int .i64 (if cmpE k v r k' v' r' ≠ 0 then 0 else cmpW (worth k v) (worth k' v')), .int .i64 (cmpE k v r k' v' r')], [], []⟩ := by
  refine run_of_W (show F 37 = _ from by rw [hft]; exact ft37) (by simp) ?_
  unfold b37
  simp only [List.map_cons, List.map_nil, List.getElem?_cons_zero, List.getElem?_cons_succ, List.getElem?_nil, Option.getD_some, Option.getD_none]
  repeat' first | apply W.seq | apply SQn | apply W.region | apply WO.nil | apply W.block | apply W.ret | apply W.exit | apply W.skip | apply SQr | apply SQe | apply BQn | apply BQr | apply BQe | (apply BQo; exact rfl) | apply LQe | apply LQr | (apply W.drawro; exact rfl) | apply W.draw | apply WD.nil | (apply WD.gT; exact rfl) | (apply WD.gF; exact rfl) | (apply WD.sT; exact rfl) | (apply WD.sF; exact rfl) | (apply WD.sU; exact rfl) | (apply WD.pure1; exact rfl) | (apply WD.load1; exact rfl; exact rfl; exact rfl) | (apply WD.new1; exact rfl) | (apply WD.clb; exact rfl; exact rfl; exact rfl; exact rfl; all_goals first | (intro h; exact absurd h (by decide)) | intro _) | (apply WD.cl0; exact rfl; exact rfl; exact rfl; exact rfl) | (apply WD.cl1; exact rfl; exact rfl; exact rfl; exact rfl) | (apply W.condT; exact rfl) | (apply W.condF; exact rfl) | (apply W.cond; exact rfl; all_goals intro _) | (apply WO.neq; exact rfl; exact rfl; all_goals first | (intro _; exfalso; omega) | intro _) | (apply WO.sneq; exact rfl; exact rfl; all_goals first | (intro h; exact absurd h (by decide)) | (intro h; exact absurd rfl h) | (intro h; contradiction) | intro _) | (apply WO.clb; exact rfl; exact rfl; exact rfl; all_goals first | (intro h; exact absurd h (by decide)) | intro _) | (apply WO.cll; exact rfl; exact rfl; exact rfl) | (apply WO.hlv; exact rfl; exact rfl; exact rfl) | (apply WO.hpv; exact rfl; exact rfl; exact rfl) | (apply WO.hnv; exact rfl; exact rfl; exact rfl) | (apply WO.pl; exact rfl; exact rfl) | (apply WO.pp; exact rfl; exact rfl)
  all_goals refine ⟨.inr rfl, rfl, _, rfl, ?_, rfl⟩
  all_goals (rename_i h1 h2; simp only [tupA, cmpE, h1] at h2 ⊢)
  all_goals first | rw [if_pos h2] | rw [if_neg (by omega), h2]
end Go.Ab.Ch1


/-
  Own work: marks of chapter 1: rounding, winds, the law's own helpers.
-/
namespace Go.Ab.Ch1
variable {inv : InvF} {F : FuncId → Option IFunc}

/-- The step of a class for a kind; 0: none. -/
def stepOf (k c : List UInt8) : Int :=
  if k = sTime then (if c = sExact then 1 else if c = sHund then 100 else if c = sTenths then 1000 else 0)
  else if k = sLength then (if c = sExact then 1 else if c = sCent then 10 else 0)
  else if k = sPoints then (if c = sExact then 1 else 0) else 0
/-- Rounded to a multiple: upwards for times, downwards else. -/
def roundV (k : List UInt8) (s v : Int) : Int := if k = sTime then v + (s - 1) - (v + (s - 1)) % s else v - v % s
def isClass (c : List UInt8) : Prop := c ∈ [sExact, sHund, sTenths, sCent]
instance (c : List UInt8) : Decidable (isClass c) := by unfold isClass; infer_instance
def roundE (k : List UInt8) (v : Int) (r c : List UInt8) : Int :=
  if chk k v r ≠ 0 then chk k v r else if k = sNone then (if isClass c then 0 else 13) else if stepOf k c = 0 then 13 else if kMost k < roundV k (stepOf k c) v then 4 else 0
def roundK (k : List UInt8) (v : Int) (r c : List UInt8) : List UInt8 := if roundE k v r c ≠ 0 then [] else k
def roundR (k : List UInt8) (v : Int) (r c : List UInt8) : List UInt8 := if roundE k v r c ≠ 0 then [] else r
def roundN (k : List UInt8) (v : Int) (r c : List UInt8) : Int := if roundE k v r c ≠ 0 then 0 else if k = sNone then v else roundV k (stepOf k c) v
abbrev roundT (k : List UInt8) (v : Int) (r c : List UInt8) : AV := .tup [mkM (roundK k v r c) (roundN k v r c) (roundR k v r c), .int .i64 (roundE k v r c)]

theorem class_cases (c : List UInt8) : c = sExact ∨ c = sHund ∨ c = sTenths ∨ c = sCent ∨ (c ≠ sExact ∧ c ≠ sHund ∧ c ≠ sTenths ∧ c ≠ sCent) := by
  by_cases h1 : c = sExact
  · exact .inl h1
  by_cases h2 : c = sHund
  · exact .inr (.inl h2)
  by_cases h3 : c = sTenths
  · exact .inr (.inr (.inl h3))
  by_cases h4 : c = sCent
  · exact .inr (.inr (.inr (.inl h4)))
  exact .inr (.inr (.inr (.inr ⟨h1, h2, h3, h4⟩)))

theorem chk_zero {k : List UInt8} {v : Int} {r : List UInt8} (h : chk k v r = 0) : (k = sNone ∧ r ∈ reasons ∧ v = 0) ∨ (k ≠ sNone ∧ known k ∧ r = [] ∧ kLeast k ≤ v ∧ v ≤ kMost k) := by
  unfold chk at h
  split at h
  · rename_i h1
    split at h
    · cases h
    · rename_i h2
      split at h
      · cases h
      · rename_i h3
        exact .inl ⟨h1, Classical.not_not.1 h2, Classical.not_not.1 h3⟩
  · rename_i h1
    split at h
    · cases h
    · rename_i h2
      split at h
      · cases h
      · rename_i h3
        split at h
        · cases h
        · rename_i h4
          exact .inr ⟨h1, Classical.not_not.1 h2, Classical.not_not.1 h3, by omega, by omega⟩

def TRound : List (Nat × Spec) := [(36, specChk), (116, specContains), (113, specKinds)]
set_option maxHeartbeats 8000000 in
theorem w40 (hft : F = FT) (k : List UInt8) (v : Int) (r c : List UInt8) : Run (mk0 TRound inv F) 40 [mkM k v r, .str c] [] ⟨roundT k v r c, [], []⟩ := by
  refine run_of_W (show F 40 = _ from by rw [hft]; exact ft40) (by simp) ?_
  unfold b40
  simp only [List.map_cons, List.map_nil, List.getElem?_cons_zero, List.getElem?_cons_succ, List.getElem?_nil, Option.getD_some, Option.getD_none]
  by_cases he : chk k v r = 0
  · rcases chk_zero he with ⟨rfl, hr, rfl⟩ | ⟨hk, hk2, rfl, hl, hm⟩
    · repeat' first | apply W.seq | apply SQn | apply W.region | apply WO.nil | apply W.block | apply W.ret | apply W.exit | apply W.skip | apply SQr | apply SQe | apply BQn | apply BQr | apply BQe | (apply BQo; exact rfl) | apply LQe | apply LQr | (apply W.drawro; exact rfl) | apply W.draw | apply WD.nil | (apply WD.gT; exact rfl) | (apply WD.gF; exact rfl) | (apply WD.sT; exact rfl) | (apply WD.sF; exact rfl) | (apply WD.sU; exact rfl) | (apply WD.pure1; exact rfl) | (apply WD.load1; exact rfl; exact rfl; exact rfl) | (apply WD.store1; exact rfl; exact rfl; exact rfl) | (apply WD.new1; exact rfl) | (apply WD.look1; exact rfl; exact rfl) | (apply WD.clb; exact rfl; exact rfl; exact rfl; exact rfl; all_goals first | (intro h; exact absurd h (by decide)) | intro _) | (apply WD.cl0; exact rfl; exact rfl; exact rfl; exact rfl) | (apply WD.cl1; exact rfl; exact rfl; exact rfl; exact rfl) | (apply W.condT; exact rfl) | (apply W.condF; exact rfl) | (apply W.cond; exact rfl; all_goals intro _) | (apply WO.gtr; exact rfl; exact rfl; all_goals first | (intro _; exfalso; omega) | intro _) | (apply WO.eql; exact rfl; exact rfl; all_goals first | (intro _; exfalso; omega) | intro _) | (apply WO.neq; exact rfl; exact rfl; all_goals first | (intro _; exfalso; omega) | intro _) | (apply WO.add; exact rfl; exact rfl; omega) | (apply WO.sub; exact rfl; exact rfl; omega) | (apply WO.remp; exact rfl; exact rfl; omega; intro _ _) | (apply WO.remn; exact rfl; exact rfl; omega; intro _ _) | (apply WO.rem; exact rfl; exact rfl; omega) | (apply WO.seql; exact rfl; exact rfl; all_goals first | (intro h; exact absurd h (by decide)) | (intro h; exact absurd rfl h) | (intro h; contradiction) | intro _) | (apply WO.sneq; exact rfl; exact rfl; all_goals first | (intro h; exact absurd h (by decide)) | (intro h; exact absurd rfl h) | (intro h; contradiction) | intro _) | (apply WO.clb; exact rfl; exact rfl; exact rfl; all_goals first | (intro h; exact absurd h (by decide)) | intro _) | (apply WO.cll; exact rfl; exact rfl; exact rfl) | (apply WO.hlv; exact rfl; exact rfl; exact rfl) | (apply WO.hpv; exact rfl; exact rfl; exact rfl) | (apply WO.hnv; exact rfl; exact rfl; exact rfl) | (apply WO.pl; exact rfl; exact rfl) | (apply WO.pp; exact rfl; exact rfl)
      all_goals refine ⟨.inr rfl, rfl, _, rfl, ?_, rfl⟩
      · rename_i h
        have h' : isClass c := of_decide_eq_true h
        simp [tupA, roundK, roundR, roundN, roundE, he, h', overwrite]
      · rename_i h
        have h' : ¬ isClass c := of_decide_eq_false h
        simp [tupA, roundK, roundR, roundN, roundE, he, h', overwrite]
    · rcases hk2 with rfl | rfl | rfl
      all_goals simp only [kLeast, kMost] at hl hm
      all_goals simp (decide := true) at hl hm
      all_goals rcases class_cases c with rfl | rfl | rfl | rfl | ⟨c1, c2, c3, c4⟩
      · repeat' first | apply W.seq | apply SQn | apply W.region | apply WO.nil | apply W.block | apply W.ret | apply W.exit | apply W.skip | apply SQr | apply SQe | apply BQn | apply BQr | apply BQe | (apply BQo; exact rfl) | apply LQe | apply LQr | (apply W.drawro; exact rfl) | apply W.draw | apply WD.nil | (apply WD.gT; exact rfl) | (apply WD.gF; exact rfl) | (apply WD.sT; exact rfl) | (apply WD.sF; exact rfl) | (apply WD.sU; exact rfl) | (apply WD.pure1; exact rfl) | (apply WD.load1; exact rfl; exact rfl; exact rfl) | (apply WD.store1; exact rfl; exact rfl; exact rfl) | (apply WD.new1; exact rfl) | (apply WD.look1; exact rfl; exact rfl) | (apply WD.clb; exact rfl; exact rfl; exact rfl; exact rfl; all_goals first | (intro h; exact absurd h (by decide)) | intro _) | (apply WD.cl0; exact rfl; exact rfl; exact rfl; exact rfl) | (apply WD.cl1; exact rfl; exact rfl; exact rfl; exact rfl) | (apply W.condT; exact rfl) | (apply W.condF; exact rfl) | (apply W.cond; exact rfl; all_goals intro _) | (apply WO.gtr; exact rfl; exact rfl; all_goals first | (intro _; exfalso; omega) | intro _) | (apply WO.eql; exact rfl; exact rfl; all_goals first | (intro _; exfalso; omega) | intro _) | (apply WO.neq; exact rfl; exact rfl; all_goals first | (intro _; exfalso; omega) | intro _) | (apply WO.add; exact rfl; exact rfl; omega) | (apply WO.sub; exact rfl; exact rfl; omega) | (apply WO.remp; exact rfl; exact rfl; omega; intro _ _) | (apply WO.remn; exact rfl; exact rfl; omega; intro _ _) | (apply WO.rem; exact rfl; exact rfl; omega) | (apply WO.lkN; exact rfl; exact rfl; exact rfl; exact rfl; exact rfl) | (apply WO.seql; exact rfl; exact rfl; all_goals first | (intro h; exact absurd h (by decide)) | (intro h; exact absurd rfl h) | (intro h; contradiction) | intro _) | (apply WO.sneq; exact rfl; exact rfl; all_goals first | (intro h; exact absurd h (by decide)) | (intro h; exact absurd rfl h) | (intro h; contradiction) | intro _) | (apply WO.clb; exact rfl; exact rfl; exact rfl; all_goals first | (intro h; exact absurd h (by decide)) | intro _) | (apply WO.cll; exact rfl; exact rfl; exact rfl) | (apply WO.hlv; exact rfl; exact rfl; exact rfl) | (apply WO.hpv; exact rfl; exact rfl; exact rfl) | (apply WO.hnv; exact rfl; exact rfl; exact rfl) | (apply WO.pl; exact rfl; exact rfl) | (apply WO.pp; exact rfl; exact rfl)
        all_goals refine ⟨.inr rfl, rfl, _, rfl, ?_, rfl⟩
        all_goals simp_all [tupA, roundK, roundR, roundN, roundE, stepOf, roundV, kMost, overwrite]
      · repeat' first | apply W.seq | apply SQn | apply W.region | apply WO.nil | apply W.block | apply W.ret | apply W.exit | apply W.skip | apply SQr | apply SQe | apply BQn | apply BQr | apply BQe | (apply BQo; exact rfl) | apply LQe | apply LQr | (apply W.drawro; exact rfl) | apply W.draw | apply WD.nil | (apply WD.gT; exact rfl) | (apply WD.gF; exact rfl) | (apply WD.sT; exact rfl) | (apply WD.sF; exact rfl) | (apply WD.sU; exact rfl) | (apply WD.pure1; exact rfl) | (apply WD.load1; exact rfl; exact rfl; exact rfl) | (apply WD.store1; exact rfl; exact rfl; exact rfl) | (apply WD.new1; exact rfl) | (apply WD.look1; exact rfl; exact rfl) | (apply WD.clb; exact rfl; exact rfl; exact rfl; exact rfl; all_goals first | (intro h; exact absurd h (by decide)) | intro _) | (apply WD.cl0; exact rfl; exact rfl; exact rfl; exact rfl) | (apply WD.cl1; exact rfl; exact rfl; exact rfl; exact rfl) | (apply W.condT; exact rfl) | (apply W.condF; exact rfl) | (apply W.cond; exact rfl; all_goals intro _) | (apply WO.gtr; exact rfl; exact rfl; all_goals first | (intro _; exfalso; omega) | intro _) | (apply WO.eql; exact rfl; exact rfl; all_goals first | (intro _; exfalso; omega) | intro _) | (apply WO.neq; exact rfl; exact rfl; all_goals first | (intro _; exfalso; omega) | intro _) | (apply WO.add; exact rfl; exact rfl; omega) | (apply WO.sub; exact rfl; exact rfl; omega) | (apply WO.remp; exact rfl; exact rfl; omega; intro _ _) | (apply WO.remn; exact rfl; exact rfl; omega; intro _ _) | (apply WO.rem; exact rfl; exact rfl; omega) | (apply WO.lkN; exact rfl; exact rfl; exact rfl; exact rfl; exact rfl) | (apply WO.seql; exact rfl; exact rfl; all_goals first | (intro h; exact absurd h (by decide)) | (intro h; exact absurd rfl h) | (intro h; contradiction) | intro _) | (apply WO.sneq; exact rfl; exact rfl; all_goals first | (intro h; exact absurd h (by decide)) | (intro h; exact absurd rfl h) | (intro h; contradiction) | intro _) | (apply WO.clb; exact rfl; exact rfl; exact rfl; all_goals first | (intro h; exact absurd h (by decide)) | intro _) | (apply WO.cll; exact rfl; exact rfl; exact rfl) | (apply WO.hlv; exact rfl; exact rfl; exact rfl) | (apply WO.hpv; exact rfl; exact rfl; exact rfl) | (apply WO.hnv; exact rfl; exact rfl; exact rfl) | (apply WO.pl; exact rfl; exact rfl) | (apply WO.pp; exact rfl; exact rfl)
        all_goals refine ⟨.inr rfl, rfl, _, rfl, ?_, rfl⟩
        all_goals simp_all [tupA, roundK, roundR, roundN, roundE, stepOf, roundV, kMost, overwrite]
      · repeat' first | apply W.seq | apply SQn | apply W.region | apply WO.nil | apply W.block | apply W.ret | apply W.exit | apply W.skip | apply SQr | apply SQe | apply BQn | apply BQr | apply BQe | (apply BQo; exact rfl) | apply LQe | apply LQr | (apply W.drawro; exact rfl) | apply W.draw | apply WD.nil | (apply WD.gT; exact rfl) | (apply WD.gF; exact rfl) | (apply WD.sT; exact rfl) | (apply WD.sF; exact rfl) | (apply WD.sU; exact rfl) | (apply WD.pure1; exact rfl) | (apply WD.load1; exact rfl; exact rfl; exact rfl) | (apply WD.store1; exact rfl; exact rfl; exact rfl) | (apply WD.new1; exact rfl) | (apply WD.look1; exact rfl; exact rfl) | (apply WD.clb; exact rfl; exact rfl; exact rfl; exact rfl; all_goals first | (intro h; exact absurd h (by decide)) | intro _) | (apply WD.cl0; exact rfl; exact rfl; exact rfl; exact rfl) | (apply WD.cl1; exact rfl; exact rfl; exact rfl; exact rfl) | (apply W.condT; exact rfl) | (apply W.condF; exact rfl) | (apply W.cond; exact rfl; all_goals intro _) | (apply WO.gtr; exact rfl; exact rfl; all_goals first | (intro _; exfalso; omega) | intro _) | (apply WO.eql; exact rfl; exact rfl; all_goals first | (intro _; exfalso; omega) | intro _) | (apply WO.neq; exact rfl; exact rfl; all_goals first | (intro _; exfalso; omega) | intro _) | (apply WO.add; exact rfl; exact rfl; omega) | (apply WO.sub; exact rfl; exact rfl; omega) | (apply WO.remp; exact rfl; exact rfl; omega; intro _ _) | (apply WO.remn; exact rfl; exact rfl; omega; intro _ _) | (apply WO.rem; exact rfl; exact rfl; omega) | (apply WO.lkN; exact rfl; exact rfl; exact rfl; exact rfl; exact rfl) | (apply WO.seql; exact rfl; exact rfl; all_goals first | (intro h; exact absurd h (by decide)) | (intro h; exact absurd rfl h) | (intro h; contradiction) | intro _) | (apply WO.sneq; exact rfl; exact rfl; all_goals first | (intro h; exact absurd h (by decide)) | (intro h; exact absurd rfl h) | (intro h; contradiction) | intro _) | (apply WO.clb; exact rfl; exact rfl; exact rfl; all_goals first | (intro h; exact absurd h (by decide)) | intro _) | (apply WO.cll; exact rfl; exact rfl; exact rfl) | (apply WO.hlv; exact rfl; exact rfl; exact rfl) | (apply WO.hpv; exact rfl; exact rfl; exact rfl) | (apply WO.hnv; exact rfl; exact rfl; exact rfl) | (apply WO.pl; exact rfl; exact rfl) | (apply WO.pp; exact rfl; exact rfl)
        all_goals refine ⟨.inr rfl, rfl, _, rfl, ?_, rfl⟩
        all_goals simp_all [tupA, roundK, roundR, roundN, roundE, stepOf, roundV, kMost, overwrite]
      · repeat' first | apply W.seq | apply SQn | apply W.region | apply WO.nil | apply W.block | apply W.ret | apply W.exit | apply W.skip | apply SQr | apply SQe | apply BQn | apply BQr | apply BQe | (apply BQo; exact rfl) | apply LQe | apply LQr | (apply W.drawro; exact rfl) | apply W.draw | apply WD.nil | (apply WD.gT; exact rfl) | (apply WD.gF; exact rfl) | (apply WD.sT; exact rfl) | (apply WD.sF; exact rfl) | (apply WD.sU; exact rfl) | (apply WD.pure1; exact rfl) | (apply WD.load1; exact rfl; exact rfl; exact rfl) | (apply WD.store1; exact rfl; exact rfl; exact rfl) | (apply WD.new1; exact rfl) | (apply WD.look1; exact rfl; exact rfl) | (apply WD.clb; exact rfl; exact rfl; exact rfl; exact rfl; all_goals first | (intro h; exact absurd h (by decide)) | intro _) | (apply WD.cl0; exact rfl; exact rfl; exact rfl; exact rfl) | (apply WD.cl1; exact rfl; exact rfl; exact rfl; exact rfl) | (apply W.condT; exact rfl) | (apply W.condF; exact rfl) | (apply W.cond; exact rfl; all_goals intro _) | (apply WO.gtr; exact rfl; exact rfl; all_goals first | (intro _; exfalso; omega) | intro _) | (apply WO.eql; exact rfl; exact rfl; all_goals first | (intro _; exfalso; omega) | intro _) | (apply WO.neq; exact rfl; exact rfl; all_goals first | (intro _; exfalso; omega) | intro _) | (apply WO.add; exact rfl; exact rfl; omega) | (apply WO.sub; exact rfl; exact rfl; omega) | (apply WO.remp; exact rfl; exact rfl; omega; intro _ _) | (apply WO.remn; exact rfl; exact rfl; omega; intro _ _) | (apply WO.rem; exact rfl; exact rfl; omega) | (apply WO.lkN; exact rfl; exact rfl; exact rfl; exact rfl; exact rfl) | (apply WO.seql; exact rfl; exact rfl; all_goals first | (intro h; exact absurd h (by decide)) | (intro h; exact absurd rfl h) | (intro h; contradiction) | intro _) | (apply WO.sneq; exact rfl; exact rfl; all_goals first | (intro h; exact absurd h (by decide)) | (intro h; exact absurd rfl h) | (intro h; contradiction) | intro _) | (apply WO.clb; exact rfl; exact rfl; exact rfl; all_goals first | (intro h; exact absurd h (by decide)) | intro _) | (apply WO.cll; exact rfl; exact rfl; exact rfl) | (apply WO.hlv; exact rfl; exact rfl; exact rfl) | (apply WO.hpv; exact rfl; exact rfl; exact rfl) | (apply WO.hnv; exact rfl; exact rfl; exact rfl) | (apply WO.pl; exact rfl; exact rfl) | (apply WO.pp; exact rfl; exact rfl)
        all_goals refine ⟨.inr rfl, rfl, _, rfl, ?_, rfl⟩
        all_goals simp_all [tupA, roundK, roundR, roundN, roundE, stepOf, overwrite]
      · have b1 : (c == sExact) = false := beq_eq_false_iff_ne.2 c1
        have b2 : (c == sHund) = false := beq_eq_false_iff_ne.2 c2
        have b3 : (c == sTenths) = false := beq_eq_false_iff_ne.2 c3
        have b4 : (c == sCent) = false := beq_eq_false_iff_ne.2 c4
        repeat' first | apply W.seq | apply SQn | apply W.region | apply WO.nil | apply W.block | apply W.ret | apply W.exit | apply W.skip | apply SQr | apply SQe | apply BQn | apply BQr | apply BQe | (apply BQo; exact rfl) | apply LQe | apply LQr | (apply W.drawro; exact rfl) | apply W.draw | apply WD.nil | (apply WD.gT; exact rfl) | (apply WD.gF; exact rfl) | (apply WD.sT; exact rfl) | (apply WD.sF; exact rfl) | (apply WD.sU; exact rfl) | (apply WD.pure1; exact rfl) | (apply WD.load1; exact rfl; exact rfl; exact rfl) | (apply WD.store1; exact rfl; exact rfl; exact rfl) | (apply WD.new1; exact rfl) | (apply WD.look1; exact rfl; exact rfl) | (apply WD.clb; exact rfl; exact rfl; exact rfl; exact rfl; all_goals first | (intro h; exact absurd h (by decide)) | intro _) | (apply WD.cl0; exact rfl; exact rfl; exact rfl; exact rfl) | (apply WD.cl1; exact rfl; exact rfl; exact rfl; exact rfl) | (apply W.condT; exact rfl) | (apply W.condF; exact rfl) | (apply W.cond; exact rfl; all_goals intro _) | (apply WO.gtr; exact rfl; exact rfl; all_goals first | (intro _; exfalso; omega) | intro _) | (apply WO.eql; exact rfl; exact rfl; all_goals first | (intro _; exfalso; omega) | intro _) | (apply WO.neq; exact rfl; exact rfl; all_goals first | (intro _; exfalso; omega) | intro _) | (apply WO.add; exact rfl; exact rfl; omega) | (apply WO.sub; exact rfl; exact rfl; omega) | (apply WO.remp; exact rfl; exact rfl; omega; intro _ _) | (apply WO.remn; exact rfl; exact rfl; omega; intro _ _) | (apply WO.rem; exact rfl; exact rfl; omega) | (apply WO.lkN (es := [(.str sExact, .int .i64 1), (.str sHund, .int .i64 100), (.str sTenths, .int .i64 1000)]); exact rfl; exact rfl; exact rfl; exact rfl; simp only [findA, keyEq, b1, b2, b3]) | (apply WO.seql; exact rfl; exact rfl; all_goals first | (intro h; exact absurd h (by decide)) | (intro h; exact absurd rfl h) | (intro h; contradiction) | intro _) | (apply WO.sneq; exact rfl; exact rfl; all_goals first | (intro h; exact absurd h (by decide)) | (intro h; exact absurd rfl h) | (intro h; contradiction) | intro _) | (apply WO.clb; exact rfl; exact rfl; exact rfl; all_goals first | (intro h; exact absurd h (by decide)) | intro _) | (apply WO.cll; exact rfl; exact rfl; exact rfl) | (apply WO.hlv; exact rfl; exact rfl; exact rfl) | (apply WO.hpv; exact rfl; exact rfl; exact rfl) | (apply WO.hnv; exact rfl; exact rfl; exact rfl) | (apply WO.pl; exact rfl; exact rfl) | (apply WO.pp; exact rfl; exact rfl)
        all_goals refine ⟨.inr rfl, rfl, _, rfl, ?_, rfl⟩
        all_goals simp_all [tupA, roundK, roundR, roundN, roundE, stepOf, overwrite]
      · repeat' first | apply W.seq | apply SQn | apply W.region | apply WO.nil | apply W.block | apply W.ret | apply W.exit | apply W.skip | apply SQr | apply SQe | apply BQn | apply BQr | apply BQe | (apply BQo; exact rfl) | apply LQe | apply LQr | (apply W.drawro; exact rfl) | apply W.draw | apply WD.nil | (apply WD.gT; exact rfl) | (apply WD.gF; exact rfl) | (apply WD.sT; exact rfl) | (apply WD.sF; exact rfl) | (apply WD.sU; exact rfl) | (apply WD.pure1; exact rfl) | (apply WD.load1; exact rfl; exact rfl; exact rfl) | (apply WD.store1; exact rfl; exact rfl; exact rfl) | (apply WD.new1; exact rfl) | (apply WD.look1; exact rfl; exact rfl) | (apply WD.clb; exact rfl; exact rfl; exact rfl; exact rfl; all_goals first | (intro h; exact absurd h (by decide)) | intro _) | (apply WD.cl0; exact rfl; exact rfl; exact rfl; exact rfl) | (apply WD.cl1; exact rfl; exact rfl; exact rfl; exact rfl) | (apply W.condT; exact rfl) | (apply W.condF; exact rfl) | (apply W.cond; exact rfl; all_goals intro _) | (apply WO.gtr; exact rfl; exact rfl; all_goals first | (intro _; exfalso; omega) | intro _) | (apply WO.eql; exact rfl; exact rfl; all_goals first | (intro _; exfalso; omega) | intro _) | (apply WO.neq; exact rfl; exact rfl; all_goals first | (intro _; exfalso; omega) | intro _) | (apply WO.add; exact rfl; exact rfl; omega) | (apply WO.sub; exact rfl; exact rfl; omega) | (apply WO.remp; exact rfl; exact rfl; omega; intro _ _) | (apply WO.remn; exact rfl; exact rfl; omega; intro _ _) | (apply WO.rem; exact rfl; exact rfl; omega) | (apply WO.lkN; exact rfl; exact rfl; exact rfl; exact rfl; exact rfl) | (apply WO.seql; exact rfl; exact rfl; all_goals first | (intro h; exact absurd h (by decide)) | (intro h; exact absurd rfl h) | (intro h; contradiction) | intro _) | (apply WO.sneq; exact rfl; exact rfl; all_goals first | (intro h; exact absurd h (by decide)) | (intro h; exact absurd rfl h) | (intro h; contradiction) | intro _) | (apply WO.clb; exact rfl; exact rfl; exact rfl; all_goals first | (intro h; exact absurd h (by decide)) | intro _) | (apply WO.cll; exact rfl; exact rfl; exact rfl) | (apply WO.hlv; exact rfl; exact rfl; exact rfl) | (apply WO.hpv; exact rfl; exact rfl; exact rfl) | (apply WO.hnv; exact rfl; exact rfl; exact rfl) | (apply WO.pl; exact rfl; exact rfl) | (apply WO.pp; exact rfl; exact rfl)
        all_goals refine ⟨.inr rfl, rfl, _, rfl, ?_, rfl⟩
        all_goals simp_all [tupA, roundK, roundR, roundN, roundE, stepOf, roundV, kMost, overwrite]
      · repeat' first | apply W.seq | apply SQn | apply W.region | apply WO.nil | apply W.block | apply W.ret | apply W.exit | apply W.skip | apply SQr | apply SQe | apply BQn | apply BQr | apply BQe | (apply BQo; exact rfl) | apply LQe | apply LQr | (apply W.drawro; exact rfl) | apply W.draw | apply WD.nil | (apply WD.gT; exact rfl) | (apply WD.gF; exact rfl) | (apply WD.sT; exact rfl) | (apply WD.sF; exact rfl) | (apply WD.sU; exact rfl) | (apply WD.pure1; exact rfl) | (apply WD.load1; exact rfl; exact rfl; exact rfl) | (apply WD.store1; exact rfl; exact rfl; exact rfl) | (apply WD.new1; exact rfl) | (apply WD.look1; exact rfl; exact rfl) | (apply WD.clb; exact rfl; exact rfl; exact rfl; exact rfl; all_goals first | (intro h; exact absurd h (by decide)) | intro _) | (apply WD.cl0; exact rfl; exact rfl; exact rfl; exact rfl) | (apply WD.cl1; exact rfl; exact rfl; exact rfl; exact rfl) | (apply W.condT; exact rfl) | (apply W.condF; exact rfl) | (apply W.cond; exact rfl; all_goals intro _) | (apply WO.gtr; exact rfl; exact rfl; all_goals first | (intro _; exfalso; omega) | intro _) | (apply WO.eql; exact rfl; exact rfl; all_goals first | (intro _; exfalso; omega) | intro _) | (apply WO.neq; exact rfl; exact rfl; all_goals first | (intro _; exfalso; omega) | intro _) | (apply WO.add; exact rfl; exact rfl; omega) | (apply WO.sub; exact rfl; exact rfl; omega) | (apply WO.remp; exact rfl; exact rfl; omega; intro _ _) | (apply WO.remn; exact rfl; exact rfl; omega; intro _ _) | (apply WO.rem; exact rfl; exact rfl; omega) | (apply WO.lkN; exact rfl; exact rfl; exact rfl; exact rfl; exact rfl) | (apply WO.seql; exact rfl; exact rfl; all_goals first | (intro h; exact absurd h (by decide)) | (intro h; exact absurd rfl h) | (intro h; contradiction) | intro _) | (apply WO.sneq; exact rfl; exact rfl; all_goals first | (intro h; exact absurd h (by decide)) | (intro h; exact absurd rfl h) | (intro h; contradiction) | intro _) | (apply WO.clb; exact rfl; exact rfl; exact rfl; all_goals first | (intro h; exact absurd h (by decide)) | intro _) | (apply WO.cll; exact rfl; exact rfl; exact rfl) | (apply WO.hlv; exact rfl; exact rfl; exact rfl) | (apply WO.hpv; exact rfl; exact rfl; exact rfl) | (apply WO.hnv; exact rfl; exact rfl; exact rfl) | (apply WO.pl; exact rfl; exact rfl) | (apply WO.pp; exact rfl; exact rfl)
        all_goals refine ⟨.inr rfl, rfl, _, rfl, ?_, rfl⟩
        all_goals simp_all [tupA, roundK, roundR, roundN, roundE, stepOf, overwrite]
      · repeat' first | apply W.seq | apply SQn | apply W.region | apply WO.nil | apply W.block | apply W.ret | apply W.exit | apply W.skip | apply SQr | apply SQe | apply BQn | apply BQr | apply BQe | (apply BQo; exact rfl) | apply LQe | apply LQr | (apply W.drawro; exact rfl) | apply W.draw | apply WD.nil | (apply WD.gT; exact rfl) | (apply WD.gF; exact rfl) | (apply WD.sT; exact rfl) | (apply WD.sF; exact rfl) | (apply WD.sU; exact rfl) | (apply WD.pure1; exact rfl) | (apply WD.load1; exact rfl; exact rfl; exact rfl) | (apply WD.store1; exact rfl; exact rfl; exact rfl) | (apply WD.new1; exact rfl) | (apply WD.look1; exact rfl; exact rfl) | (apply WD.clb; exact rfl; exact rfl; exact rfl; exact rfl; all_goals first | (intro h; exact absurd h (by decide)) | intro _) | (apply WD.cl0; exact rfl; exact rfl; exact rfl; exact rfl) | (apply WD.cl1; exact rfl; exact rfl; exact rfl; exact rfl) | (apply W.condT; exact rfl) | (apply W.condF; exact rfl) | (apply W.cond; exact rfl; all_goals intro _) | (apply WO.gtr; exact rfl; exact rfl; all_goals first | (intro _; exfalso; omega) | intro _) | (apply WO.eql; exact rfl; exact rfl; all_goals first | (intro _; exfalso; omega) | intro _) | (apply WO.neq; exact rfl; exact rfl; all_goals first | (intro _; exfalso; omega) | intro _) | (apply WO.add; exact rfl; exact rfl; omega) | (apply WO.sub; exact rfl; exact rfl; omega) | (apply WO.remp; exact rfl; exact rfl; omega; intro _ _) | (apply WO.remn; exact rfl; exact rfl; omega; intro _ _) | (apply WO.rem; exact rfl; exact rfl; omega) | (apply WO.lkN; exact rfl; exact rfl; exact rfl; exact rfl; exact rfl) | (apply WO.seql; exact rfl; exact rfl; all_goals first | (intro h; exact absurd h (by decide)) | (intro h; exact absurd rfl h) | (intro h; contradiction) | intro _) | (apply WO.sneq; exact rfl; exact rfl; all_goals first | (intro h; exact absurd h (by decide)) | (intro h; exact absurd rfl h) | (intro h; contradiction) | intro _) | (apply WO.clb; exact rfl; exact rfl; exact rfl; all_goals first | (intro h; exact absurd h (by decide)) | intro _) | (apply WO.cll; exact rfl; exact rfl; exact rfl) | (apply WO.hlv; exact rfl; exact rfl; exact rfl) | (apply WO.hpv; exact rfl; exact rfl; exact rfl) | (apply WO.hnv; exact rfl; exact rfl; exact rfl) | (apply WO.pl; exact rfl; exact rfl) | (apply WO.pp; exact rfl; exact rfl)
        all_goals refine ⟨.inr rfl, rfl, _, rfl, ?_, rfl⟩
        all_goals simp_all [tupA, roundK, roundR, roundN, roundE, stepOf, overwrite]
      · repeat' first | apply W.seq | apply SQn | apply W.region | apply WO.nil | apply W.block | apply W.ret | apply W.exit | apply W.skip | apply SQr | apply SQe | apply BQn | apply BQr | apply BQe | (apply BQo; exact rfl) | apply LQe | apply LQr | (apply W.drawro; exact rfl) | apply W.draw | apply WD.nil | (apply WD.gT; exact rfl) | (apply WD.gF; exact rfl) | (apply WD.sT; exact rfl) | (apply WD.sF; exact rfl) | (apply WD.sU; exact rfl) | (apply WD.pure1; exact rfl) | (apply WD.load1; exact rfl; exact rfl; exact rfl) | (apply WD.store1; exact rfl; exact rfl; exact rfl) | (apply WD.new1; exact rfl) | (apply WD.look1; exact rfl; exact rfl) | (apply WD.clb; exact rfl; exact rfl; exact rfl; exact rfl; all_goals first | (intro h; exact absurd h (by decide)) | intro _) | (apply WD.cl0; exact rfl; exact rfl; exact rfl; exact rfl) | (apply WD.cl1; exact rfl; exact rfl; exact rfl; exact rfl) | (apply W.condT; exact rfl) | (apply W.condF; exact rfl) | (apply W.cond; exact rfl; all_goals intro _) | (apply WO.gtr; exact rfl; exact rfl; all_goals first | (intro _; exfalso; omega) | intro _) | (apply WO.eql; exact rfl; exact rfl; all_goals first | (intro _; exfalso; omega) | intro _) | (apply WO.neq; exact rfl; exact rfl; all_goals first | (intro _; exfalso; omega) | intro _) | (apply WO.add; exact rfl; exact rfl; omega) | (apply WO.sub; exact rfl; exact rfl; omega) | (apply WO.remp; exact rfl; exact rfl; omega; intro _ _) | (apply WO.remn; exact rfl; exact rfl; omega; intro _ _) | (apply WO.rem; exact rfl; exact rfl; omega) | (apply WO.lkN; exact rfl; exact rfl; exact rfl; exact rfl; exact rfl) | (apply WO.seql; exact rfl; exact rfl; all_goals first | (intro h; exact absurd h (by decide)) | (intro h; exact absurd rfl h) | (intro h; contradiction) | intro _) | (apply WO.sneq; exact rfl; exact rfl; all_goals first | (intro h; exact absurd h (by decide)) | (intro h; exact absurd rfl h) | (intro h; contradiction) | intro _) | (apply WO.clb; exact rfl; exact rfl; exact rfl; all_goals first | (intro h; exact absurd h (by decide)) | intro _) | (apply WO.cll; exact rfl; exact rfl; exact rfl) | (apply WO.hlv; exact rfl; exact rfl; exact rfl) | (apply WO.hpv; exact rfl; exact rfl; exact rfl) | (apply WO.hnv; exact rfl; exact rfl; exact rfl) | (apply WO.pl; exact rfl; exact rfl) | (apply WO.pp; exact rfl; exact rfl)
        all_goals refine ⟨.inr rfl, rfl, _, rfl, ?_, rfl⟩
        all_goals simp_all [tupA, roundK, roundR, roundN, roundE, stepOf, roundV, kMost, overwrite]
      · have b1 : (c == sExact) = false := beq_eq_false_iff_ne.2 c1
        have b2 : (c == sHund) = false := beq_eq_false_iff_ne.2 c2
        have b3 : (c == sTenths) = false := beq_eq_false_iff_ne.2 c3
        have b4 : (c == sCent) = false := beq_eq_false_iff_ne.2 c4
        repeat' first | apply W.seq | apply SQn | apply W.region | apply WO.nil | apply W.block | apply W.ret | apply W.exit | apply W.skip | apply SQr | apply SQe | apply BQn | apply BQr | apply BQe | (apply BQo; exact rfl) | apply LQe | apply LQr | (apply W.drawro; exact rfl) | apply W.draw | apply WD.nil | (apply WD.gT; exact rfl) | (apply WD.gF; exact rfl) | (apply WD.sT; exact rfl) | (apply WD.sF; exact rfl) | (apply WD.sU; exact rfl) | (apply WD.pure1; exact rfl) | (apply WD.load1; exact rfl; exact rfl; exact rfl) | (apply WD.store1; exact rfl; exact rfl; exact rfl) | (apply WD.new1; exact rfl) | (apply WD.look1; exact rfl; exact rfl) | (apply WD.clb; exact rfl; exact rfl; exact rfl; exact rfl; all_goals first | (intro h; exact absurd h (by decide)) | intro _) | (apply WD.cl0; exact rfl; exact rfl; exact rfl; exact rfl) | (apply WD.cl1; exact rfl; exact rfl; exact rfl; exact rfl) | (apply W.condT; exact rfl) | (apply W.condF; exact rfl) | (apply W.cond; exact rfl; all_goals intro _) | (apply WO.gtr; exact rfl; exact rfl; all_goals first | (intro _; exfalso; omega) | intro _) | (apply WO.eql; exact rfl; exact rfl; all_goals first | (intro _; exfalso; omega) | intro _) | (apply WO.neq; exact rfl; exact rfl; all_goals first | (intro _; exfalso; omega) | intro _) | (apply WO.add; exact rfl; exact rfl; omega) | (apply WO.sub; exact rfl; exact rfl; omega) | (apply WO.remp; exact rfl; exact rfl; omega; intro _ _) | (apply WO.remn; exact rfl; exact rfl; omega; intro _ _) | (apply WO.rem; exact rfl; exact rfl; omega) | (apply WO.lkN (es := [(.str sExact, .int .i64 1), (.str sCent, .int .i64 10)]); exact rfl; exact rfl; exact rfl; exact rfl; simp only [findA, keyEq, b1, b4]) | (apply WO.seql; exact rfl; exact rfl; all_goals first | (intro h; exact absurd h (by decide)) | (intro h; exact absurd rfl h) | (intro h; contradiction) | intro _) | (apply WO.sneq; exact rfl; exact rfl; all_goals first | (intro h; exact absurd h (by decide)) | (intro h; exact absurd rfl h) | (intro h; contradiction) | intro _) | (apply WO.clb; exact rfl; exact rfl; exact rfl; all_goals first | (intro h; exact absurd h (by decide)) | intro _) | (apply WO.cll; exact rfl; exact rfl; exact rfl) | (apply WO.hlv; exact rfl; exact rfl; exact rfl) | (apply WO.hpv; exact rfl; exact rfl; exact rfl) | (apply WO.hnv; exact rfl; exact rfl; exact rfl) | (apply WO.pl; exact rfl; exact rfl) | (apply WO.pp; exact rfl; exact rfl)
        all_goals refine ⟨.inr rfl, rfl, _, rfl, ?_, rfl⟩
        all_goals simp_all [tupA, roundK, roundR, roundN, roundE, stepOf, overwrite]
      · repeat' first | apply W.seq | apply SQn | apply W.region | apply WO.nil | apply W.block | apply W.ret | apply W.exit | apply W.skip | apply SQr | apply SQe | apply BQn | apply BQr | apply BQe | (apply BQo; exact rfl) | apply LQe | apply LQr | (apply W.drawro; exact rfl) | apply W.draw | apply WD.nil | (apply WD.gT; exact rfl) | (apply WD.gF; exact rfl) | (apply WD.sT; exact rfl) | (apply WD.sF; exact rfl) | (apply WD.sU; exact rfl) | (apply WD.pure1; exact rfl) | (apply WD.load1; exact rfl; exact rfl; exact rfl) | (apply WD.store1; exact rfl; exact rfl; exact rfl) | (apply WD.new1; exact rfl) | (apply WD.look1; exact rfl; exact rfl) | (apply WD.clb; exact rfl; exact rfl; exact rfl; exact rfl; all_goals first | (intro h; exact absurd h (by decide)) | intro _) | (apply WD.cl0; exact rfl; exact rfl; exact rfl; exact rfl) | (apply WD.cl1; exact rfl; exact rfl; exact rfl; exact rfl) | (apply W.condT; exact rfl) | (apply W.condF; exact rfl) | (apply W.cond; exact rfl; all_goals intro _) | (apply WO.gtr; exact rfl; exact rfl; all_goals first | (intro _; exfalso; omega) | intro _) | (apply WO.eql; exact rfl; exact rfl; all_goals first | (intro _; exfalso; omega) | intro _) | (apply WO.neq; exact rfl; exact rfl; all_goals first | (intro _; exfalso; omega) | intro _) | (apply WO.add; exact rfl; exact rfl; omega) | (apply WO.sub; exact rfl; exact rfl; omega) | (apply WO.remp; exact rfl; exact rfl; omega; intro _ _) | (apply WO.remn; exact rfl; exact rfl; omega; intro _ _) | (apply WO.rem; exact rfl; exact rfl; omega) | (apply WO.lkN; exact rfl; exact rfl; exact rfl; exact rfl; exact rfl) | (apply WO.seql; exact rfl; exact rfl; all_goals first | (intro h; exact absurd h (by decide)) | (intro h; exact absurd rfl h) | (intro h; contradiction) | intro _) | (apply WO.sneq; exact rfl; exact rfl; all_goals first | (intro h; exact absurd h (by decide)) | (intro h; exact absurd rfl h) | (intro h; contradiction) | intro _) | (apply WO.clb; exact rfl; exact rfl; exact rfl; all_goals first | (intro h; exact absurd h (by decide)) | intro _) | (apply WO.cll; exact rfl; exact rfl; exact rfl) | (apply WO.hlv; exact rfl; exact rfl; exact rfl) | (apply WO.hpv; exact rfl; exact rfl; exact rfl) | (apply WO.hnv; exact rfl; exact rfl; exact rfl) | (apply WO.pl; exact rfl; exact rfl) | (apply WO.pp; exact rfl; exact rfl)
        all_goals refine ⟨.inr rfl, rfl, _, rfl, ?_, rfl⟩
        all_goals simp_all [tupA, roundK, roundR, roundN, roundE, stepOf, roundV, kMost, overwrite]
      · repeat' first | apply W.seq | apply SQn | apply W.region | apply WO.nil | apply W.block | apply W.ret | apply W.exit | apply W.skip | apply SQr | apply SQe | apply BQn | apply BQr | apply BQe | (apply BQo; exact rfl) | apply LQe | apply LQr | (apply W.drawro; exact rfl) | apply W.draw | apply WD.nil | (apply WD.gT; exact rfl) | (apply WD.gF; exact rfl) | (apply WD.sT; exact rfl) | (apply WD.sF; exact rfl) | (apply WD.sU; exact rfl) | (apply WD.pure1; exact rfl) | (apply WD.load1; exact rfl; exact rfl; exact rfl) | (apply WD.store1; exact rfl; exact rfl; exact rfl) | (apply WD.new1; exact rfl) | (apply WD.look1; exact rfl; exact rfl) | (apply WD.clb; exact rfl; exact rfl; exact rfl; exact rfl; all_goals first | (intro h; exact absurd h (by decide)) | intro _) | (apply WD.cl0; exact rfl; exact rfl; exact rfl; exact rfl) | (apply WD.cl1; exact rfl; exact rfl; exact rfl; exact rfl) | (apply W.condT; exact rfl) | (apply W.condF; exact rfl) | (apply W.cond; exact rfl; all_goals intro _) | (apply WO.gtr; exact rfl; exact rfl; all_goals first | (intro _; exfalso; omega) | intro _) | (apply WO.eql; exact rfl; exact rfl; all_goals first | (intro _; exfalso; omega) | intro _) | (apply WO.neq; exact rfl; exact rfl; all_goals first | (intro _; exfalso; omega) | intro _) | (apply WO.add; exact rfl; exact rfl; omega) | (apply WO.sub; exact rfl; exact rfl; omega) | (apply WO.remp; exact rfl; exact rfl; omega; intro _ _) | (apply WO.remn; exact rfl; exact rfl; omega; intro _ _) | (apply WO.rem; exact rfl; exact rfl; omega) | (apply WO.lkN; exact rfl; exact rfl; exact rfl; exact rfl; exact rfl) | (apply WO.seql; exact rfl; exact rfl; all_goals first | (intro h; exact absurd h (by decide)) | (intro h; exact absurd rfl h) | (intro h; contradiction) | intro _) | (apply WO.sneq; exact rfl; exact rfl; all_goals first | (intro h; exact absurd h (by decide)) | (intro h; exact absurd rfl h) | (intro h; contradiction) | intro _) | (apply WO.clb; exact rfl; exact rfl; exact rfl; all_goals first | (intro h; exact absurd h (by decide)) | intro _) | (apply WO.cll; exact rfl; exact rfl; exact rfl) | (apply WO.hlv; exact rfl; exact rfl; exact rfl) | (apply WO.hpv; exact rfl; exact rfl; exact rfl) | (apply WO.hnv; exact rfl; exact rfl; exact rfl) | (apply WO.pl; exact rfl; exact rfl) | (apply WO.pp; exact rfl; exact rfl)
        all_goals refine ⟨.inr rfl, rfl, _, rfl, ?_, rfl⟩
        all_goals simp_all [tupA, roundK, roundR, roundN, roundE, stepOf, overwrite]
      · repeat' first | apply W.seq | apply SQn | apply W.region | apply WO.nil | apply W.block | apply W.ret | apply W.exit | apply W.skip | apply SQr | apply SQe | apply BQn | apply BQr | apply BQe | (apply BQo; exact rfl) | apply LQe | apply LQr | (apply W.drawro; exact rfl) | apply W.draw | apply WD.nil | (apply WD.gT; exact rfl) | (apply WD.gF; exact rfl) | (apply WD.sT; exact rfl) | (apply WD.sF; exact rfl) | (apply WD.sU; exact rfl) | (apply WD.pure1; exact rfl) | (apply WD.load1; exact rfl; exact rfl; exact rfl) | (apply WD.store1; exact rfl; exact rfl; exact rfl) | (apply WD.new1; exact rfl) | (apply WD.look1; exact rfl; exact rfl) | (apply WD.clb; exact rfl; exact rfl; exact rfl; exact rfl; all_goals first | (intro h; exact absurd h (by decide)) | intro _) | (apply WD.cl0; exact rfl; exact rfl; exact rfl; exact rfl) | (apply WD.cl1; exact rfl; exact rfl; exact rfl; exact rfl) | (apply W.condT; exact rfl) | (apply W.condF; exact rfl) | (apply W.cond; exact rfl; all_goals intro _) | (apply WO.gtr; exact rfl; exact rfl; all_goals first | (intro _; exfalso; omega) | intro _) | (apply WO.eql; exact rfl; exact rfl; all_goals first | (intro _; exfalso; omega) | intro _) | (apply WO.neq; exact rfl; exact rfl; all_goals first | (intro _; exfalso; omega) | intro _) | (apply WO.add; exact rfl; exact rfl; omega) | (apply WO.sub; exact rfl; exact rfl; omega) | (apply WO.remp; exact rfl; exact rfl; omega; intro _ _) | (apply WO.remn; exact rfl; exact rfl; omega; intro _ _) | (apply WO.rem; exact rfl; exact rfl; omega) | (apply WO.lkN; exact rfl; exact rfl; exact rfl; exact rfl; exact rfl) | (apply WO.seql; exact rfl; exact rfl; all_goals first | (intro h; exact absurd h (by decide)) | (intro h; exact absurd rfl h) | (intro h; contradiction) | intro _) | (apply WO.sneq; exact rfl; exact rfl; all_goals first | (intro h; exact absurd h (by decide)) | (intro h; exact absurd rfl h) | (intro h; contradiction) | intro _) | (apply WO.clb; exact rfl; exact rfl; exact rfl; all_goals first | (intro h; exact absurd h (by decide)) | intro _) | (apply WO.cll; exact rfl; exact rfl; exact rfl) | (apply WO.hlv; exact rfl; exact rfl; exact rfl) | (apply WO.hpv; exact rfl; exact rfl; exact rfl) | (apply WO.hnv; exact rfl; exact rfl; exact rfl) | (apply WO.pl; exact rfl; exact rfl) | (apply WO.pp; exact rfl; exact rfl)
        all_goals refine ⟨.inr rfl, rfl, _, rfl, ?_, rfl⟩
        all_goals simp_all [tupA, roundK, roundR, roundN, roundE, stepOf, overwrite]
      · repeat' first | apply W.seq | apply SQn | apply W.region | apply WO.nil | apply W.block | apply W.ret | apply W.exit | apply W.skip | apply SQr | apply SQe | apply BQn | apply BQr | apply BQe | (apply BQo; exact rfl) | apply LQe | apply LQr | (apply W.drawro; exact rfl) | apply W.draw | apply WD.nil | (apply WD.gT; exact rfl) | (apply WD.gF; exact rfl) | (apply WD.sT; exact rfl) | (apply WD.sF; exact rfl) | (apply WD.sU; exact rfl) | (apply WD.pure1; exact rfl) | (apply WD.load1; exact rfl; exact rfl; exact rfl) | (apply WD.store1; exact rfl; exact rfl; exact rfl) | (apply WD.new1; exact rfl) | (apply WD.look1; exact rfl; exact rfl) | (apply WD.clb; exact rfl; exact rfl; exact rfl; exact rfl; all_goals first | (intro h; exact absurd h (by decide)) | intro _) | (apply WD.cl0; exact rfl; exact rfl; exact rfl; exact rfl) | (apply WD.cl1; exact rfl; exact rfl; exact rfl; exact rfl) | (apply W.condT; exact rfl) | (apply W.condF; exact rfl) | (apply W.cond; exact rfl; all_goals intro _) | (apply WO.gtr; exact rfl; exact rfl; all_goals first | (intro _; exfalso; omega) | intro _) | (apply WO.eql; exact rfl; exact rfl; all_goals first | (intro _; exfalso; omega) | intro _) | (apply WO.neq; exact rfl; exact rfl; all_goals first | (intro _; exfalso; omega) | intro _) | (apply WO.add; exact rfl; exact rfl; omega) | (apply WO.sub; exact rfl; exact rfl; omega) | (apply WO.remp; exact rfl; exact rfl; omega; intro _ _) | (apply WO.remn; exact rfl; exact rfl; omega; intro _ _) | (apply WO.rem; exact rfl; exact rfl; omega) | (apply WO.lkN; exact rfl; exact rfl; exact rfl; exact rfl; exact rfl) | (apply WO.seql; exact rfl; exact rfl; all_goals first | (intro h; exact absurd h (by decide)) | (intro h; exact absurd rfl h) | (intro h; contradiction) | intro _) | (apply WO.sneq; exact rfl; exact rfl; all_goals first | (intro h; exact absurd h (by decide)) | (intro h; exact absurd rfl h) | (intro h; contradiction) | intro _) | (apply WO.clb; exact rfl; exact rfl; exact rfl; all_goals first | (intro h; exact absurd h (by decide)) | intro _) | (apply WO.cll; exact rfl; exact rfl; exact rfl) | (apply WO.hlv; exact rfl; exact rfl; exact rfl) | (apply WO.hpv; exact rfl; exact rfl; exact rfl) | (apply WO.hnv; exact rfl; exact rfl; exact rfl) | (apply WO.pl; exact rfl; exact rfl) | (apply WO.pp; exact rfl; exact rfl)
        all_goals refine ⟨.inr rfl, rfl, _, rfl, ?_, rfl⟩
        all_goals simp_all [tupA, roundK, roundR, roundN, roundE, stepOf, overwrite]
      · have b1 : (c == sExact) = false := beq_eq_false_iff_ne.2 c1
        have b2 : (c == sHund) = false := beq_eq_false_iff_ne.2 c2
        have b3 : (c == sTenths) = false := beq_eq_false_iff_ne.2 c3
        have b4 : (c == sCent) = false := beq_eq_false_iff_ne.2 c4
        repeat' first | apply W.seq | apply SQn | apply W.region | apply WO.nil | apply W.block | apply W.ret | apply W.exit | apply W.skip | apply SQr | apply SQe | apply BQn | apply BQr | apply BQe | (apply BQo; exact rfl) | apply LQe | apply LQr | (apply W.drawro; exact rfl) | apply W.draw | apply WD.nil | (apply WD.gT; exact rfl) | (apply WD.gF; exact rfl) | (apply WD.sT; exact rfl) | (apply WD.sF; exact rfl) | (apply WD.sU; exact rfl) | (apply WD.pure1; exact rfl) | (apply WD.load1; exact rfl; exact rfl; exact rfl) | (apply WD.store1; exact rfl; exact rfl; exact rfl) | (apply WD.new1; exact rfl) | (apply WD.look1; exact rfl; exact rfl) | (apply WD.clb; exact rfl; exact rfl; exact rfl; exact rfl; all_goals first | (intro h; exact absurd h (by decide)) | intro _) | (apply WD.cl0; exact rfl; exact rfl; exact rfl; exact rfl) | (apply WD.cl1; exact rfl; exact rfl; exact rfl; exact rfl) | (apply W.condT; exact rfl) | (apply W.condF; exact rfl) | (apply W.cond; exact rfl; all_goals intro _) | (apply WO.gtr; exact rfl; exact rfl; all_goals first | (intro _; exfalso; omega) | intro _) | (apply WO.eql; exact rfl; exact rfl; all_goals first | (intro _; exfalso; omega) | intro _) | (apply WO.neq; exact rfl; exact rfl; all_goals first | (intro _; exfalso; omega) | intro _) | (apply WO.add; exact rfl; exact rfl; omega) | (apply WO.sub; exact rfl; exact rfl; omega) | (apply WO.remp; exact rfl; exact rfl; omega; intro _ _) | (apply WO.remn; exact rfl; exact rfl; omega; intro _ _) | (apply WO.rem; exact rfl; exact rfl; omega) | (apply WO.lkN (es := [(.str sExact, .int .i64 1)]); exact rfl; exact rfl; exact rfl; exact rfl; simp only [findA, keyEq, b1]) | (apply WO.seql; exact rfl; exact rfl; all_goals first | (intro h; exact absurd h (by decide)) | (intro h; exact absurd rfl h) | (intro h; contradiction) | intro _) | (apply WO.sneq; exact rfl; exact rfl; all_goals first | (intro h; exact absurd h (by decide)) | (intro h; exact absurd rfl h) | (intro h; contradiction) | intro _) | (apply WO.clb; exact rfl; exact rfl; exact rfl; all_goals first | (intro h; exact absurd h (by decide)) | intro _) | (apply WO.cll; exact rfl; exact rfl; exact rfl) | (apply WO.hlv; exact rfl; exact rfl; exact rfl) | (apply WO.hpv; exact rfl; exact rfl; exact rfl) | (apply WO.hnv; exact rfl; exact rfl; exact rfl) | (apply WO.pl; exact rfl; exact rfl) | (apply WO.pp; exact rfl; exact rfl)
        all_goals refine ⟨.inr rfl, rfl, _, rfl, ?_, rfl⟩
        all_goals simp_all [tupA, roundK, roundR, roundN, roundE, stepOf, overwrite]
  · repeat' first | apply W.seq | apply SQn | apply W.region | apply WO.nil | apply W.block | apply W.ret | apply W.exit | apply W.skip | apply SQr | apply SQe | apply BQn | apply BQr | apply BQe | (apply BQo; exact rfl) | apply LQe | apply LQr | (apply W.drawro; exact rfl) | apply W.draw | apply WD.nil | (apply WD.gT; exact rfl) | (apply WD.gF; exact rfl) | (apply WD.sT; exact rfl) | (apply WD.sF; exact rfl) | (apply WD.sU; exact rfl) | (apply WD.pure1; exact rfl) | (apply WD.load1; exact rfl; exact rfl; exact rfl) | (apply WD.store1; exact rfl; exact rfl; exact rfl) | (apply WD.new1; exact rfl) | (apply WD.look1; exact rfl; exact rfl) | (apply WD.clb; exact rfl; exact rfl; exact rfl; exact rfl; all_goals first | (intro h; exact absurd h (by decide)) | intro _) | (apply WD.cl0; exact rfl; exact rfl; exact rfl; exact rfl) | (apply WD.cl1; exact rfl; exact rfl; exact rfl; exact rfl) | (apply W.condT; exact rfl) | (apply W.condF; exact rfl) | (apply W.cond; exact rfl; all_goals intro _) | (apply WO.gtr; exact rfl; exact rfl; all_goals first | (intro _; exfalso; omega) | intro _) | (apply WO.eql; exact rfl; exact rfl; all_goals first | (intro _; exfalso; omega) | intro _) | (apply WO.neq; exact rfl; exact rfl; all_goals first | (intro _; exfalso; omega) | intro _) | (apply WO.add; exact rfl; exact rfl; omega) | (apply WO.sub; exact rfl; exact rfl; omega) | (apply WO.remp; exact rfl; exact rfl; omega; intro _ _) | (apply WO.remn; exact rfl; exact rfl; omega; intro _ _) | (apply WO.rem; exact rfl; exact rfl; omega) | (apply WO.seql; exact rfl; exact rfl; all_goals first | (intro h; exact absurd h (by decide)) | (intro h; exact absurd rfl h) | (intro h; contradiction) | intro _) | (apply WO.sneq; exact rfl; exact rfl; all_goals first | (intro h; exact absurd h (by decide)) | (intro h; exact absurd rfl h) | (intro h; contradiction) | intro _) | (apply WO.clb; exact rfl; exact rfl; exact rfl; all_goals first | (intro h; exact absurd h (by decide)) | intro _) | (apply WO.cll; exact rfl; exact rfl; exact rfl) | (apply WO.hlv; exact rfl; exact rfl; exact rfl) | (apply WO.hpv; exact rfl; exact rfl; exact rfl) | (apply WO.hnv; exact rfl; exact rfl; exact rfl) | (apply WO.pl; exact rfl; exact rfl) | (apply WO.pp; exact rfl; exact rfl)
    all_goals refine ⟨.inr rfl, rfl, _, rfl, ?_, rfl⟩
    all_goals simp_all [tupA, roundK, roundR, roundN, roundE, overwrite]
end Go.Ab.Ch1

