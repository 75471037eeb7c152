/-
  Own work: the resolved code of some functions of chapter 1.
-/
import Derived.Test.YtcjphdmkgmkabaaGreatDoorCh1Base
import Derived.Test.YtcjphdmkgmkabaaGreatDoorLib2
import Derived.Test.YtcjphdmkgmkabaaGreatDoorCh1Row
namespace Go.Ab.Ch1
set_option maxRecDepth 1000000
/-- stadion/mark.outside -/
def b95 : ICode :=
 .seq (.region [⟨(.p 3), .mv (.c (.bool false)), none⟩])
  (.seq (.region [⟨(.l 7), .mv (.p 0), none⟩,
     ⟨(.l 8), .mv (.p 1), none⟩,
     ⟨(.l 9), .bin .lss (.l 7) (.l 8), none⟩,
     ⟨(.l 10), .mv (.l 9), none⟩,
     ⟨(.l 11), .mv (.p 0), some ((.l 10), false)⟩,
     ⟨(.l 12), .mv (.p 2), some ((.l 10), false)⟩,
     ⟨(.l 13), .bin .gtr (.l 11) (.l 12), some ((.l 10), false)⟩,
     ⟨(.l 14), .pick (.l 10) (.c (.bool true)) (.l 13), none⟩,
     ⟨(.p 3), .mv (.l 14), none⟩])
   (.ret))
theorem ft95 : FT 95 = some ⟨15, [0, 1, 2, 6], [.var (.p 3)], b95⟩ := by kernel_rfl

end Go.Ab.Ch1


/-
  Own work: plain facts of drawn orders: an exchange after the other gives an order of the same elements; its last place and the rest.
-/
namespace Go.Ab

end Go.Ab


/-
  Own work: mark.Draw, mark.outside, stadionref01.CheckDraw: what they compute.
-/
namespace Go.Ab.Ch1
open Go.Proofs.Tryz
variable {M : Mach}

theorem w95 (hft : M.FT = FT) (x lo hi : Int) : Run M 95 [.int .i64 x, .int .i64 lo, .int .i64 hi] [] ⟨.bool (decide (x < lo) || decide (hi < x)), [], []⟩ := by
  refine run_of_W (by rw [hft]; exact ft95) (by simp) ?_
  unfold b95
  repeat' first | apply W.seq | apply SQn | apply W.region | apply WO.nil | apply W.block | apply W.ret | apply W.exit | apply W.skip | apply SQr | apply SQe | apply BQn | apply BQr | apply BQe | (apply BQo; exact rfl) | apply LQe | apply LQr | (apply W.condT; exact rfl) | (apply W.condF; exact rfl) | (apply W.cond; exact rfl; all_goals intro _) | (apply WO.gT; exact rfl) | (apply WO.gF; exact rfl) | (apply WO.sT; exact rfl) | (apply WO.sF; exact rfl) | (apply WO.sU; exact rfl) | (apply WO.lss; exact rfl; exact rfl; all_goals first | (intro _; exfalso; omega) | intro _) | (apply WO.gtr; exact rfl; exact rfl; all_goals first | (intro _; exfalso; omega) | intro _) | (apply WO.pkT; exact rfl; exact rfl) | (apply WO.pkF; exact rfl; exact rfl) | (apply WO.pl; exact rfl; exact rfl) | (apply WO.pp; exact rfl; exact rfl)
  all_goals exact ⟨.inr rfl, rfl, _, rfl, by simp [tupA, *]; try omega, by simp [AV.top]⟩

end Go.Ab.Ch1


/-
  Own work: contracts of chapter 1 as a table.
-/
namespace Go.Ab
open Go.ChangeShapes Go.WideShapes Go.RowKit
variable {P : Program} {gl : Nat → Option AV}

theorem mach_ft {FT : FuncId → Option IFunc} {T : List (Nat × Spec)} : (mach P FT T).FT = FT := rfl
theorem mach_ext {FT : FuncId → Option IFunc} {T : List (Nat × Spec)} : (mach P FT T).ext = extS T := rfl

/-- A law that answers true, as the kit's contract. -/
theorem calls_true {FT : FuncId → Option IFunc} (hs : Seat P gl FT) {T : List (Nat × Spec)} (hT : ExtOK P gl (extS T)) {f : Nat} {xs : List AV} {w : World} (hr : Run (mach P FT T) f xs [] ⟨.bool true, [], []⟩)
    (hgl : ∀ g v, gl g = some v → V bare w v (.pointer (some ⟨g, 0, none⟩))) {as' : List Value} (hv : VL bare w xs as') : Calls P f as'.toArray w fun e w' => e = .returned (.bool true) ∧ Below w.heap.size w w' := by
  obtain ⟨n, hn⟩ := hr
  refine (calls_of_run hs.mix hT hs.ft hn hgl hv).mono fun e w' he => ?_
  obtain ⟨v', h1, ⟨ρ', h2⟩, h3⟩ := he
  cases h2
  exact ⟨h1, below_of h3⟩
end Go.Ab
namespace Go.Ab.Ch1
open Go.Proofs

def s18 : Spec := spec0 [] (.bool true)
theorem s18_ok : SpecOK Tryz.prog gl 18 s18 := spec0_ok gl_top rfl rfl o22
def s95 : Spec := fun
  | [.int .i64 x, .int .i64 lo, .int .i64 hi], h => some ⟨.bool (decide (x < lo) || decide (hi < x)), h, []⟩
  | _, _ => none
theorem s95_ok : SpecOK Tryz.prog gl 95 s95 := by
  intro xs h r hq
  unfold s95 at hq
  split at hq
  · cases hq
    exact ent_run0 seat tab_nil (w95 (M := mach Tryz.prog FT []) mach_ft _ _ _) (FrL.same rfl) rfl (.inl rfl)
  · cases hq

end Go.Ab.Ch1


/-
  Own work: the resolved code of some functions of chapter 1: first, when.
-/
namespace Go.Ab.Ch1
set_option maxRecDepth 1000000
/-- stadion/mark.when -/
def b97 : ICode :=
 .seq (.region [⟨(.p 2), .mv (.c (.int .i64 (0))), none⟩])
  (.seq (.seq (.region [⟨(.l 5), .mv (.p 0), none⟩])
    (.cond (.l 5)
     (.seq (.region [⟨(.l 6), .mv (.p 1), none⟩,
        ⟨(.p 2), .mv (.l 6), none⟩])
      (.ret))
     (.skip)))
   (.seq (.region [⟨(.p 2), .mv (.c (.int .i64 (0))), none⟩])
    (.ret)))
theorem ft97 : FT 97 = some ⟨7, [0, 1, 4], [.var (.p 2)], b97⟩ := by kernel_rfl

def b96_0 : ICode :=
 .seq (.region [⟨(.l 8), .bin .lss (.p 5) (.p 4), none⟩])
  (.seq (.cond (.l 8)
    (.skip)
    (.exit 0))
   (.seq (.block 1
     (.seq (.region [⟨(.l 9), .iaddr none 1 (.p 3) (.p 5), none⟩,
        ⟨(.l 10), .load 1 false (.l 9), none⟩,
        ⟨(.p 2), .mv (.l 10), none⟩])
      (.seq (.region [⟨(.l 11), .mv (.p 2), none⟩,
         ⟨(.l 12), .bin .neq (.l 11) (.c (.int .i64 (0))), none⟩])
       (.cond (.l 12)
        (.seq (.region [⟨(.l 13), .mv (.p 2), none⟩,
           ⟨(.p 1), .mv (.l 13), none⟩])
         (.ret))
        (.skip)))))
    (.region [⟨(.l 14), .bin .add (.p 5) (.c (.int .i64 (1))), none⟩,
      ⟨(.p 5), .mv (.l 14), none⟩])))
/-- stadion/mark.first -/
def b96 : ICode :=
 .seq (.region [⟨(.p 1), .mv (.c (.int .i64 (0))), none⟩])
  (.seq (.seq (.region [⟨(.p 3), .mv (.p 0), none⟩,
      ⟨(.p 4), .len .sl (.p 3), none⟩,
      ⟨(.p 5), .mv (.c (.int .i64 (0))), none⟩])
    (.block 0
     (.loop b96_0)))
   (.seq (.region [⟨(.p 1), .mv (.c (.int .i64 (0))), none⟩])
    (.ret)))
theorem ft96 : FT 96 = some ⟨15, [0, 2, 4, 5, 6, 7], [.var (.p 1)], b96⟩ := by kernel_rfl

end Go.Ab.Ch1


/-
  Own work: first and when of chapter 1.
-/
namespace Go.Ab.Ch1
variable {inv : InvF} {F : FuncId → Option IFunc}

abbrev mk0 (T : List (Nat × Spec)) (inv : InvF) (F : FuncId → Option IFunc) : Mach := ⟨extS T, inv, F⟩

theorem ext_hd {g : Nat} {sp : Spec} {T : List (Nat × Spec)} {xs : List AV} {h : Heap} : extS ((g, sp) :: T) g xs h = sp xs h := by simp [extS]

def firstNZ : List Int → Int
  | [] => 0
  | e :: r => if e = 0 then firstNZ r else e

def specWhen : Spec := fun
  | [.bool t, .int .i64 e], h => some ⟨.int .i64 (if t then e else 0), h, []⟩
  | _, _ => none
def specFirst : Spec := fun
  | [v], h => match intsAt h v with
    | some l => if l.length < 4611686018427387904 then some ⟨.int .i64 (firstNZ l), h, []⟩ else none
    | none => none
  | _, _ => none

theorem w97 {T : List (Nat × Spec)} (hft : F = FT) (t : Bool) (e : Int) : Run (mk0 T inv F) 97 [.bool t, .int .i64 e] [] ⟨.int .i64 (if t then e else 0), [], []⟩ := by
  refine run_of_W (show F 97 = _ from by rw [hft]; exact ft97) (by simp) ?_
  unfold b97
  simp only [List.map_cons, List.map_nil, List.getElem?_cons_zero, List.getElem?_cons_succ, List.getElem?_nil, Option.getD_some, Option.getD_none]
  cases t
  all_goals
    repeat' first | apply W.seq | apply SQn | apply W.region | apply WO.nil | apply W.block | apply W.ret | apply W.exit | apply W.skip | apply SQr | apply SQe | apply BQn | apply BQr | apply BQe | (apply BQo; exact rfl) | apply LQe | apply LQr | (apply W.condT; exact rfl) | (apply W.condF; exact rfl) | (apply W.cond; exact rfl; all_goals intro _) | (apply WO.pl; exact rfl; exact rfl) | (apply WO.pp; exact rfl; exact rfl)
  all_goals exact ⟨.inr rfl, rfl, _, rfl, rfl, rfl⟩

theorem firstNZ_drop {l : List Int} {i : Nat} (h : i < l.length) : firstNZ (l.drop i) = if l[i]! = 0 then firstNZ (l.drop (i + 1)) else l[i]! := by
  rw [List.drop_eq_getElem_cons h, getElem!_pos l i h, firstNZ]

theorem body96 {T : List (Nat × Spec)} (l : List Int) (cap : Option Nat) (a0 : AV) (hl : l.length < 4611686018427387904) (hp : Heap) (df : List Nat) {Q : Ex → StW → Prop} : ∀ (r i : Nat), i + r = l.length → ∀ (a1 a2 : AV) (lo : List (Nat × AV)) (wr : List Nat),
    (firstNZ (l.drop i) = 0 → ∀ a2 lo wr, Q (.exit 0) ⟨⟨[a0, a1, a2, .vs (ints l) l.length cap, .int .i64 l.length, .int .i64 l.length], lo, hp, df⟩, wr⟩) →
    (∀ a2 a5 lo wr, Q .ret ⟨⟨[a0, .int .i64 (firstNZ (l.drop i)), a2, .vs (ints l) l.length cap, .int .i64 l.length, a5], lo, hp, df⟩, wr⟩) →
    W (mk0 T inv F) (.loop b96_0) ⟨⟨[a0, a1, a2, .vs (ints l) l.length cap, .int .i64 l.length, .int .i64 i], lo, hp, df⟩, wr⟩ Q
  | 0, i, hi, a1, a2, lo, wr, h1, h2 => by
    obtain rfl : i = l.length := by omega
    refine W.loop ?_
    unfold b96_0
    repeat' first | apply W.seq | apply SQn | apply W.region | apply WO.nil | apply W.block | apply W.ret | apply W.exit | apply W.skip | apply SQr | apply SQe | apply BQn | apply BQr | apply BQe | (apply BQo; exact rfl) | apply LQe | apply LQr | (apply W.condT; exact rfl) | (apply W.condF; exact rfl) | (apply W.cond; exact rfl; all_goals intro _) | (apply WO.lss; exact rfl; exact rfl; all_goals first | (intro _; exfalso; omega) | intro _) | (apply WO.neq; exact rfl; exact rfl; all_goals first | (intro _; exfalso; omega) | intro _) | (apply WO.add; exact rfl; exact rfl; omega) | (apply WO.iav; exact rfl; exact rfl; omega) | (apply WO.ias; exact rfl; exact rfl; omega) | (apply WO.lda; exact rfl; exact fun _ => rfl; (first | omega | (simp only [List.length_set]; omega) | (simp; omega)); decide; exact rfl; case ia => infer_instance) | (apply WO.lsa; exact rfl; (first | exact rfl | assumption | exact at_new | (apply at_old; assumption) | (apply at_put; first | assumption | (simp only [put_length]; assumption))); exact fun _ => rfl; (first | omega | (simp only [List.length_set]; omega) | (simp; omega)); decide; exact rfl; case ia => infer_instance) | (apply WO.sneq; exact rfl; exact rfl; all_goals first | (intro h; exact absurd h (by decide)) | (intro h; exact absurd rfl h) | (intro h; contradiction) | intro _) | (apply WO.hlv; exact rfl; exact rfl; exact rfl) | (apply WO.hpv; exact rfl; exact rfl; exact rfl) | (apply WO.hnv; exact rfl; exact rfl; exact rfl) | (apply WO.pl; exact rfl; exact rfl) | (apply WO.pp; exact rfl; exact rfl)
    exact h1 (by simp [firstNZ]) _ _ _
  | r + 1, i, hi, a1, a2, lo, wr, h1, h2 => by
    have e := firstNZ_drop (l := l) (i := (i : Int).toNat) (by omega)
    rw [Int.toNat_natCast] at e
    refine W.loop ?_
    unfold b96_0
    repeat' first | apply W.seq | apply SQn | apply W.region | apply WO.nil | apply W.block | apply W.ret | apply W.exit | apply W.skip | apply SQr | apply SQe | apply BQn | apply BQr | apply BQe | (apply BQo; exact rfl) | apply LQe | apply LQr | (apply W.condT; exact rfl) | (apply W.condF; exact rfl) | (apply W.cond; exact rfl; all_goals intro _) | (apply WO.lss; exact rfl; exact rfl; all_goals first | (intro _; exfalso; omega) | intro _) | (apply WO.neq; exact rfl; exact rfl; all_goals first | (intro _; exfalso; omega) | intro _) | (apply WO.add; exact rfl; exact rfl; omega) | (apply WO.iav; exact rfl; exact rfl; omega) | (apply WO.ias; exact rfl; exact rfl; omega) | (apply WO.lda; exact rfl; exact fun _ => rfl; (first | omega | (simp only [List.length_set]; omega) | (simp; omega)); decide; exact rfl; case ia => infer_instance) | (apply WO.lsa; exact rfl; (first | exact rfl | assumption | exact at_new | (apply at_old; assumption) | (apply at_put; first | assumption | (simp only [put_length]; assumption))); exact fun _ => rfl; (first | omega | (simp only [List.length_set]; omega) | (simp; omega)); decide; exact rfl; case ia => infer_instance) | (apply WO.sneq; exact rfl; exact rfl; all_goals first | (intro h; exact absurd h (by decide)) | (intro h; exact absurd rfl h) | (intro h; contradiction) | intro _) | (apply WO.hlv; exact rfl; exact rfl; exact rfl) | (apply WO.hpv; exact rfl; exact rfl; exact rfl) | (apply WO.hnv; exact rfl; exact rfl; exact rfl) | (apply WO.pl; exact rfl; exact rfl) | (apply WO.pp; exact rfl; exact rfl)
    · rename_i hne
      rw [Int.toNat_natCast] at hne
      rw [if_neg hne] at e
      rw [e] at h2
      exact h2 _ _ _ _
    · rename_i he
      rw [Int.toNat_natCast] at he
      rw [if_pos he] at e
      rw [e] at h1 h2
      exact LQn (body96 l cap a0 hl hp df r (i + 1) (by omega) _ _ _ _ h1 h2)
theorem w96 {T : List (Nat × Spec)} (hft : F = FT) (l : List Int) (cap : Option Nat) (hl : l.length < 4611686018427387904) : Run (mk0 T inv F) 96 [.vs (ints l) l.length cap] [] ⟨.int .i64 (firstNZ l), [], []⟩ := by
  refine run_of_W (show F 96 = _ from by rw [hft]; exact ft96) (by simp) ?_
  unfold b96
  simp only [List.map_cons, List.map_nil, List.getElem?_cons_zero, List.getElem?_cons_succ, List.getElem?_nil, Option.getD_some, Option.getD_none]
  repeat' first | apply W.seq | apply SQn | apply W.region | apply WO.nil | apply W.block | apply W.ret | apply W.exit | apply W.skip | apply SQr | apply SQe | apply BQn | apply BQr | apply BQe | (apply BQo; exact rfl) | apply LQe | apply LQr | (apply W.condT; exact rfl) | (apply W.condF; exact rfl) | (apply W.cond; exact rfl; all_goals intro _) | (apply WO.pl; exact rfl; exact rfl) | (apply WO.pp; exact rfl; exact rfl)
  refine body96 l cap _ hl _ _ l.length 0 (by omega) _ _ _ _ (fun h a2 lo wr => ?_) (fun a2 a5 lo wr => ?_)
  · repeat' first | apply W.seq | apply SQn | apply W.region | apply WO.nil | apply W.block | apply W.ret | apply W.exit | apply W.skip | apply SQr | apply SQe | apply BQn | apply BQr | apply BQe | (apply BQo; exact rfl) | apply LQe | apply LQr | (apply W.condT; exact rfl) | (apply W.condF; exact rfl) | (apply W.cond; exact rfl; all_goals intro _) | (apply WO.pl; exact rfl; exact rfl) | (apply WO.pp; exact rfl; exact rfl)
    exact ⟨.inr rfl, rfl, _, rfl, by rw [List.drop_zero] at h; rw [h]; rfl, rfl⟩
  · repeat' first | apply W.seq | apply SQn | apply W.region | apply WO.nil | apply W.block | apply W.ret | apply W.exit | apply W.skip | apply SQr | apply SQe | apply BQn | apply BQr | apply BQe | (apply BQo; exact rfl) | apply LQe | apply LQr | (apply W.condT; exact rfl) | (apply W.condF; exact rfl) | (apply W.cond; exact rfl; all_goals intro _) | (apply WO.pl; exact rfl; exact rfl) | (apply WO.pp; exact rfl; exact rfl)
    exact ⟨.inr rfl, rfl, _, rfl, rfl, rfl⟩

end Go.Ab.Ch1


/-
  Own work: the contracts of first and when as a table.
-/
namespace Go.Ab.Ch1
open Go.Proofs

theorem when97 : SpecOK Tryz.prog gl 97 specWhen := by
  intro xs h r hq
  unfold specWhen at hq
  split at hq
  · cases hq; exact ent_run0 seat tab_nil (w97 (T := []) rfl _ _) (FrL.same rfl) rfl (.inl rfl)
  · cases hq
theorem first_ok {f : Nat} (hw : ∀ (l : List Int) cap, l.length < 4611686018427387904 → Run (mach Tryz.prog FT []) f [.vs (ints l) l.length cap] [] ⟨.int .i64 (firstNZ l), [], []⟩) : SpecOK Tryz.prog gl f specFirst := by
  intro xs h r hq
  unfold specFirst at hq
  split at hq
  · split at hq
    · rename_i l hl
      split at hq
      · rename_i hlen
        cases hq
        obtain ⟨S, cap, hf⟩ := (intsAt_sl hl).fr (fun _ => rfl)
        exact ent_run0 seat tab_nil (hw l cap hlen) (.cons hf .nil) rfl (.inr rfl)
      · cases hq
    · cases hq
  · cases hq
theorem first96 : SpecOK Tryz.prog gl 96 specFirst := first_ok fun l cap h => w96 (T := []) rfl l cap h
end Go.Ab.Ch1


/-
  Own work: the resolved code of some functions of chapter 1: marks.
-/
namespace Go.Ab.Ch1
set_option maxRecDepth 1000000
/-- stadion/mark.CheckMark -/
def b36 : ICode :=
 .seq (.region [⟨(.p 1), .box 49 3 (.p 0), none⟩,
    ⟨(.p 2), .mv (.c (.int .i64 (0))), none⟩])
  (.seq (.seq (.region [⟨(.l 5), .faddr 0 (.p 1), none⟩,
      ⟨(.l 6), .load 1 false (.l 5), none⟩,
      ⟨(.l 7), .bin .eql (.l 6) (.c (.str [110, 111, 110, 101])), none⟩])
    (.cond (.l 7)
     (.seq (.draw [(⟨(.l 8), .faddr 2 (.p 1), none⟩, []),
        (⟨(.l 9), .load 1 false (.l 8), none⟩, []),
        (⟨(.l 10), .call (.c (.fn (.func 112) [] [])) [(.l 9)], none⟩, []),
        (⟨(.l 11), .un .not (.l 10), none⟩, []),
        (⟨(.l 12), .call (.c (.fn (.func 97) [] [])) [(.l 11), (.c (.int .i64 (1)))], none⟩, []),
        (⟨(.l 13), .faddr 1 (.p 1), none⟩, [0, 1, 2, 3, 4]),
        (⟨(.l 14), .load 1 false (.l 13), none⟩, [0, 1, 2, 3, 4]),
        (⟨(.l 15), .bin .neq (.l 14) (.c (.int .i64 (0))), none⟩, [0, 1, 2, 3, 4]),
        (⟨(.l 16), .call (.c (.fn (.func 97) [] [])) [(.l 15), (.c (.int .i64 (3)))], none⟩, []),
        (⟨(.l 17), .bslice 25 2 1 [.int .i64 (0)] [(0, 1, (.l 12)), (1, 1, (.l 16))], none⟩, []),
        (⟨(.l 18), .call (.c (.fn (.func 96) [] [])) [(.l 17)], none⟩, []),
        (⟨(.p 2), .mv (.l 18), none⟩, [])])
      (.ret))
     (.skip)))
   (.seq (.draw [(⟨(.l 20), .call (.c (.fn (.func 113) [] [])) [], none⟩, []),
      (⟨(.l 21), .faddr 0 (.p 1), none⟩, [0]),
      (⟨(.l 22), .load 1 false (.l 21), none⟩, [0]),
      (⟨(.l 23), .lookup .str (.agg [.int .i64 (0), .int .i64 (0), .bool false, .nilmap, .nilfn]) (.l 20) (.l 22) true, none⟩, []),
      (⟨(.l 19), .mv (.l 23), none⟩, []),
      (⟨(.l 24), .extract 0 (.l 19), none⟩, []),
      (⟨(.l 25), .extract 1 (.l 19), none⟩, [5]),
      (⟨(.p 3), .alloc 141 [.int .i64 (0), .int .i64 (0), .bool false, .nilmap, .nilfn], none⟩, [0, 1, 2, 3, 4, 5, 6]),
      (⟨.no, .store 5 (.p 3) (.l 24), none⟩, [6]),
      (⟨(.p 4), .mv (.l 25), none⟩, [])])
    (.seq (.draw [(⟨(.l 26), .mv (.p 4), none⟩, []),
       (⟨(.l 27), .un .not (.l 26), none⟩, []),
       (⟨(.l 28), .call (.c (.fn (.func 97) [] [])) [(.l 27), (.c (.int .i64 (13)))], none⟩, []),
       (⟨(.l 29), .faddr 2 (.p 1), none⟩, [0, 1, 2]),
       (⟨(.l 30), .load 1 false (.l 29), none⟩, [0, 1, 2]),
       (⟨(.l 31), .bin .neq (.l 30) (.c (.str [])), none⟩, [0, 1, 2]),
       (⟨(.l 32), .call (.c (.fn (.func 97) [] [])) [(.l 31), (.c (.int .i64 (1)))], none⟩, []),
       (⟨(.l 33), .faddr 1 (.p 1), none⟩, [0, 1, 2, 3, 4, 5, 6]),
       (⟨(.l 34), .load 1 false (.l 33), none⟩, [0, 1, 2, 3, 4, 5, 6]),
       (⟨(.l 35), .faddr 0 (.p 3), none⟩, [0, 1, 2, 3, 4, 5, 6, 7, 8]),
       (⟨(.l 36), .load 1 false (.l 35), none⟩, [0, 1, 2, 3, 4, 5, 6, 7, 8]),
       (⟨(.l 37), .faddr 1 (.p 3), none⟩, [0, 1, 2, 3, 4, 5, 6, 7, 8, 9, 10]),
       (⟨(.l 38), .load 1 false (.l 37), none⟩, [0, 1, 2, 3, 4, 5, 6, 7, 8, 9, 10]),
       (⟨(.l 39), .call (.c (.fn (.func 95) [] [])) [(.l 34), (.l 36), (.l 38)], none⟩, []),
       (⟨(.l 40), .call (.c (.fn (.func 97) [] [])) [(.l 39), (.c (.int .i64 (3)))], none⟩, []),
       (⟨(.l 41), .bslice 25 3 1 [.int .i64 (0)] [(0, 1, (.l 28)), (1, 1, (.l 32)), (2, 1, (.l 40))], none⟩, []),
       (⟨(.l 42), .call (.c (.fn (.func 96) [] [])) [(.l 41)], none⟩, []),
       (⟨(.p 2), .mv (.l 42), none⟩, [])])
     (.ret))))
theorem ft36 : FT 36 = some ⟨43, [0, 1, 2, 3, 4], [.var (.p 2)], b36⟩ := by kernel_rfl

/-- stadion/mark.kinds -/
def b113 : ICode :=
 .seq (.region [⟨(.p 0), .mv (.c (.nilmap)), none⟩])
  (.seq (.region [⟨(.l 1), .mkmap, none⟩,
     ⟨(.l 2), .mkmap, none⟩,
     ⟨.no, .mapset .str (.l 2) (.c (.str [101, 120, 97, 99, 116])) (.c (.int .i64 (1))), none⟩,
     ⟨.no, .mapset .str (.l 2) (.c (.str [104, 117, 110, 100, 114, 101, 100, 116, 104, 115])) (.c (.int .i64 (100))), none⟩,
     ⟨.no, .mapset .str (.l 2) (.c (.str [116, 101, 110, 116, 104, 115])) (.c (.int .i64 (1000))), none⟩,
     ⟨(.l 3), .mv (.l 2), none⟩,
     ⟨(.l 4), .build [.int .i64 (0), .int .i64 (0), .bool false, .nilmap, .nilfn] [(0, 1, (.c (.int .i64 (1)))), (1, 1, (.c (.int .i64 (863999999)))), (2, 1, (.c (.bool false))), (3, 1, (.l 3)), (4, 1, (.c (.fn (.func 180) [] [])))], none⟩,
     ⟨.no, .mapset .str (.l 1) (.c (.str [116, 105, 109, 101])) (.l 4), none⟩,
     ⟨(.l 5), .mkmap, none⟩,
     ⟨.no, .mapset .str (.l 5) (.c (.str [101, 120, 97, 99, 116])) (.c (.int .i64 (1))), none⟩,
     ⟨.no, .mapset .str (.l 5) (.c (.str [99, 101, 110, 116, 105, 109, 101, 116, 114, 101, 115])) (.c (.int .i64 (10))), none⟩,
     ⟨(.l 6), .mv (.l 5), none⟩,
     ⟨(.l 7), .build [.int .i64 (0), .int .i64 (0), .bool false, .nilmap, .nilfn] [(0, 1, (.c (.int .i64 (0)))), (1, 1, (.c (.int .i64 (999999)))), (2, 1, (.c (.bool true))), (3, 1, (.l 6)), (4, 1, (.c (.fn (.func 181) [] [])))], none⟩,
     ⟨.no, .mapset .str (.l 1) (.c (.str [108, 101, 110, 103, 116, 104])) (.l 7), none⟩,
     ⟨(.l 8), .mkmap, none⟩,
     ⟨.no, .mapset .str (.l 8) (.c (.str [101, 120, 97, 99, 116])) (.c (.int .i64 (1))), none⟩,
     ⟨(.l 9), .mv (.l 8), none⟩,
     ⟨(.l 10), .build [.int .i64 (0), .int .i64 (0), .bool false, .nilmap, .nilfn] [(0, 1, (.c (.int .i64 (0)))), (1, 1, (.c (.int .i64 (99999)))), (2, 1, (.c (.bool true))), (3, 1, (.l 9)), (4, 1, (.c (.fn (.func 182) [] [])))], none⟩,
     ⟨.no, .mapset .str (.l 1) (.c (.str [112, 111, 105, 110, 116, 115])) (.l 10), none⟩,
     ⟨(.l 11), .mv (.l 1), none⟩,
     ⟨(.p 0), .mv (.l 11), none⟩])
   (.ret))
theorem ft113 : FT 113 = some ⟨12, [0], [.var (.p 0)], b113⟩ := by kernel_rfl

/-- stadion/mark.isReason -/
def b112 : ICode :=
 .seq (.region [⟨(.p 1), .mv (.c (.bool false)), none⟩])
  (.seq (.region [⟨(.l 3), .bslice 9 4 1 [.str []] [(0, 1, (.c (.str [68, 78, 83]))), (1, 1, (.c (.str [68, 78, 70]))), (2, 1, (.c (.str [68, 81]))), (3, 1, (.c (.str [78, 77])))], none⟩,
     ⟨(.l 4), .mv (.p 0), none⟩,
     ⟨(.l 5), .call (.c (.fn (.func 116) [] [])) [(.l 3), (.l 4)], none⟩,
     ⟨(.p 1), .mv (.l 5), none⟩])
   (.ret))
theorem ft112 : FT 112 = some ⟨6, [0, 2], [.var (.p 1)], b112⟩ := by kernel_rfl

/-- stadion/mark.worth -/
def b184 : ICode :=
 .seq (.region [⟨(.p 1), .box 49 3 (.p 0), none⟩,
    ⟨(.p 2), .mv (.c (.int .i64 (0))), none⟩])
  (.seq (.draw [(⟨(.l 6), .call (.c (.fn (.func 113) [] [])) [], none⟩, []),
     (⟨(.l 7), .faddr 0 (.p 1), none⟩, [0]),
     (⟨(.l 8), .load 1 false (.l 7), none⟩, [0]),
     (⟨(.l 9), .lookup .str (.agg [.int .i64 (0), .int .i64 (0), .bool false, .nilmap, .nilfn]) (.l 6) (.l 8) true, none⟩, []),
     (⟨(.l 5), .mv (.l 9), none⟩, []),
     (⟨(.l 10), .extract 0 (.l 5), none⟩, []),
     (⟨(.l 11), .extract 1 (.l 5), none⟩, [5]),
     (⟨(.p 3), .alloc 141 [.int .i64 (0), .int .i64 (0), .bool false, .nilmap, .nilfn], none⟩, [0, 1, 2, 3, 4, 5, 6]),
     (⟨.no, .store 5 (.p 3) (.l 10), none⟩, [6]),
     (⟨(.p 4), .mv (.l 11), none⟩, [])])
   (.seq (.block 0
     (.seq (.region [⟨(.l 13), .mv (.p 4), none⟩,
        ⟨(.l 14), .un .not (.l 13), none⟩,
        ⟨(.l 12), .mv (.l 14), none⟩])
      (.cond (.l 12)
       (.seq (.region [⟨(.p 2), .mv (.c (.int .i64 (-864000000))), none⟩])
        (.ret))
       (.seq (.region [⟨(.l 16), .faddr 2 (.p 3), none⟩,
          ⟨(.l 17), .load 1 false (.l 16), none⟩,
          ⟨(.l 15), .mv (.l 17), none⟩])
        (.cond (.l 15)
         (.seq (.region [⟨(.l 18), .faddr 1 (.p 1), none⟩,
            ⟨(.l 19), .load 1 false (.l 18), none⟩,
            ⟨(.p 2), .mv (.l 19), none⟩])
          (.ret))
         (.skip))))))
    (.seq (.region [⟨(.l 20), .faddr 1 (.p 1), none⟩,
       ⟨(.l 21), .load 1 false (.l 20), none⟩,
       ⟨(.l 22), .un .neg (.l 21), none⟩,
       ⟨(.p 2), .mv (.l 22), none⟩])
     (.ret))))
theorem ft184 : FT 184 = some ⟨23, [0, 1, 2, 3, 4], [.var (.p 2)], b184⟩ := by kernel_rfl

/-- stadion/mark.compare -/
def b115 : ICode :=
 .seq (.region [⟨(.p 2), .box 49 3 (.p 0), none⟩,
    ⟨(.p 3), .box 49 3 (.p 1), none⟩,
    ⟨(.p 4), .mv (.c (.int .i64 (0))), none⟩])
  (.seq (.draw [(⟨(.l 7), .load 3 true (.p 2), none⟩, []),
     (⟨(.l 8), .call (.c (.fn (.func 184) [] [])) [(.l 7)], none⟩, []),
     (⟨(.l 9), .load 3 true (.p 3), none⟩, [0, 1]),
     (⟨(.l 10), .call (.c (.fn (.func 184) [] [])) [(.l 9)], none⟩, []),
     (⟨(.p 5), .mv (.l 8), none⟩, []),
     (⟨(.p 6), .mv (.l 10), none⟩, [])])
   (.seq (.block 0
     (.seq (.region [⟨(.l 12), .mv (.p 5), none⟩,
        ⟨(.l 13), .mv (.p 6), none⟩,
        ⟨(.l 14), .bin .gtr (.l 12) (.l 13), none⟩,
        ⟨(.l 11), .mv (.l 14), none⟩])
      (.cond (.l 11)
       (.seq (.region [⟨(.p 4), .mv (.c (.int .i64 (-1))), none⟩])
        (.ret))
       (.seq (.region [⟨(.l 16), .mv (.p 5), none⟩,
          ⟨(.l 17), .mv (.p 6), none⟩,
          ⟨(.l 18), .bin .lss (.l 16) (.l 17), none⟩,
          ⟨(.l 15), .mv (.l 18), none⟩])
        (.cond (.l 15)
         (.seq (.region [⟨(.p 4), .mv (.c (.int .i64 (1))), none⟩])
          (.ret))
         (.skip))))))
    (.seq (.region [⟨(.p 4), .mv (.c (.int .i64 (0))), none⟩])
     (.ret))))
theorem ft115 : FT 115 = some ⟨19, [0, 1, 2, 3, 4, 5, 6], [.var (.p 4)], b115⟩ := by kernel_rfl

/-- stadion/mark.differ -/
def b114 : ICode :=
 .seq (.region [⟨(.p 2), .box 49 3 (.p 0), none⟩,
    ⟨(.p 3), .box 49 3 (.p 1), none⟩,
    ⟨(.p 4), .mv (.c (.bool false)), none⟩])
  (.seq (.region [⟨(.l 5), .faddr 0 (.p 2), none⟩,
     ⟨(.l 6), .load 1 false (.l 5), none⟩,
     ⟨(.l 7), .faddr 0 (.p 3), none⟩,
     ⟨(.l 8), .load 1 false (.l 7), none⟩,
     ⟨(.l 9), .bin .neq (.l 6) (.l 8), none⟩,
     ⟨(.l 10), .mv (.l 9), none⟩,
     ⟨(.l 11), .faddr 0 (.p 2), some ((.l 10), true)⟩,
     ⟨(.l 12), .load 1 false (.l 11), some ((.l 10), true)⟩,
     ⟨(.l 13), .bin .neq (.l 12) (.c (.str [110, 111, 110, 101])), some ((.l 10), true)⟩,
     ⟨(.l 14), .pick (.l 10) (.l 13) (.c (.bool false)), none⟩,
     ⟨(.l 15), .mv (.l 14), none⟩,
     ⟨(.l 16), .faddr 0 (.p 3), some ((.l 15), true)⟩,
     ⟨(.l 17), .load 1 false (.l 16), some ((.l 15), true)⟩,
     ⟨(.l 18), .bin .neq (.l 17) (.c (.str [110, 111, 110, 101])), some ((.l 15), true)⟩,
     ⟨(.l 19), .pick (.l 15) (.l 18) (.c (.bool false)), none⟩,
     ⟨(.p 4), .mv (.l 19), none⟩])
   (.ret))
theorem ft114 : FT 114 = some ⟨20, [0, 1, 2, 3, 4], [.var (.p 4)], b114⟩ := by kernel_rfl

/-- stadion/mark.Compare -/
def b37 : ICode :=
 .seq (.region [⟨(.p 2), .box 49 3 (.p 0), none⟩,
    ⟨(.p 3), .box 49 3 (.p 1), none⟩,
    ⟨(.p 4), .mv (.c (.int .i64 (0))), none⟩,
    ⟨(.p 5), .mv (.c (.int .i64 (0))), none⟩])
  (.seq (.seq (.draw [(⟨(.l 7), .load 3 true (.p 2), none⟩, []),
      (⟨(.l 8), .call (.c (.fn (.func 36) [] [])) [(.l 7)], none⟩, []),
      (⟨(.l 9), .load 3 true (.p 3), none⟩, [0, 1]),
      (⟨(.l 10), .call (.c (.fn (.func 36) [] [])) [(.l 9)], none⟩, []),
      (⟨(.l 11), .load 3 true (.p 2), none⟩, [0, 1, 2, 3]),
      (⟨(.l 12), .load 3 true (.p 3), none⟩, [0, 1, 2, 3, 4]),
      (⟨(.l 13), .call (.c (.fn (.func 114) [] [])) [(.l 11), (.l 12)], none⟩, []),
      (⟨(.l 14), .call (.c (.fn (.func 97) [] [])) [(.l 13), (.c (.int .i64 (13)))], none⟩, []),
      (⟨(.l 15), .bslice 25 3 1 [.int .i64 (0)] [(0, 1, (.l 8)), (1, 1, (.l 10)), (2, 1, (.l 14))], none⟩, []),
      (⟨(.l 16), .call (.c (.fn (.func 96) [] [])) [(.l 15)], none⟩, []),
      (⟨(.p 6), .mv (.l 16), none⟩, [])])
    (.seq (.region [⟨(.l 17), .mv (.p 6), none⟩,
       ⟨(.l 18), .bin .neq (.l 17) (.c (.int .i64 (0))), none⟩])
     (.cond (.l 18)
      (.seq (.region [⟨(.l 19), .mv (.p 6), none⟩,
         ⟨(.p 4), .mv (.c (.int .i64 (0))), none⟩,
         ⟨(.p 5), .mv (.l 19), none⟩])
       (.ret))
      (.skip))))
   (.seq (.region [⟨(.l 20), .load 3 true (.p 2), none⟩,
      ⟨(.l 21), .load 3 true (.p 3), none⟩,
      ⟨(.l 22), .call (.c (.fn (.func 115) [] [])) [(.l 20), (.l 21)], none⟩,
      ⟨(.p 4), .mv (.l 22), none⟩,
      ⟨(.p 5), .mv (.c (.int .i64 (0))), none⟩])
    (.ret)))
theorem ft37 : FT 37 = some ⟨23, [0, 1, 2, 3, 4, 5, 6], [.var (.p 4), .var (.p 5)], b37⟩ := by kernel_rfl

/-- stadion/mark.Round -/
def b40 : ICode :=
 .seq (.region [⟨(.p 2), .box 49 3 (.p 0), none⟩,
    ⟨(.p 3), .alloc 49 [.str [], .int .i64 (0), .str []], none⟩,
    ⟨(.p 4), .mv (.c (.int .i64 (0))), none⟩])
  (.seq (.seq (.region [⟨(.l 11), .load 3 true (.p 2), none⟩,
      ⟨(.l 12), .call (.c (.fn (.func 36) [] [])) [(.l 11)], none⟩,
      ⟨(.p 5), .mv (.l 12), none⟩])
    (.seq (.region [⟨(.l 13), .mv (.p 5), none⟩,
       ⟨(.l 14), .bin .neq (.l 13) (.c (.int .i64 (0))), none⟩])
     (.cond (.l 14)
      (.seq (.region [⟨(.l 15), .build [.str [], .int .i64 (0), .str []] [], none⟩,
         ⟨(.l 16), .mv (.p 5), none⟩,
         ⟨.no, .store 3 (.p 3) (.l 15), none⟩,
         ⟨(.p 4), .mv (.l 16), none⟩])
       (.ret))
      (.skip))))
   (.seq (.seq (.region [⟨(.l 17), .faddr 0 (.p 2), none⟩,
       ⟨(.l 18), .load 1 false (.l 17), none⟩,
       ⟨(.l 19), .bin .eql (.l 18) (.c (.str [110, 111, 110, 101])), none⟩])
     (.cond (.l 19)
      (.seq (.region [⟨(.l 20), .bslice 9 4 1 [.str []] [(0, 1, (.c (.str [101, 120, 97, 99, 116]))), (1, 1, (.c (.str [104, 117, 110, 100, 114, 101, 100, 116, 104, 115]))), (2, 1, (.c (.str [116, 101, 110, 116, 104, 115]))), (3, 1, (.c (.str [99, 101, 110, 116, 105, 109, 101, 116, 114, 101, 115])))], none⟩,
         ⟨(.l 21), .mv (.p 1), none⟩,
         ⟨(.l 22), .call (.c (.fn (.func 116) [] [])) [(.l 20), (.l 21)], none⟩,
         ⟨(.p 6), .mv (.l 22), none⟩])
       (.seq (.seq (.region [⟨(.l 23), .mv (.p 6), none⟩,
           ⟨(.l 24), .un .not (.l 23), none⟩])
         (.cond (.l 24)
          (.seq (.region [⟨(.l 25), .build [.str [], .int .i64 (0), .str []] [], none⟩,
             ⟨.no, .store 3 (.p 3) (.l 25), none⟩,
             ⟨(.p 4), .mv (.c (.int .i64 (13))), none⟩])
           (.ret))
          (.skip)))
        (.seq (.region [⟨(.l 26), .load 3 true (.p 2), none⟩,
           ⟨.no, .store 3 (.p 3) (.l 26), none⟩,
           ⟨(.p 4), .mv (.c (.int .i64 (0))), none⟩])
         (.ret))))
      (.skip)))
    (.seq (.draw [(⟨(.l 27), .call (.c (.fn (.func 113) [] [])) [], none⟩, []),
       (⟨(.l 28), .faddr 0 (.p 2), none⟩, [0]),
       (⟨(.l 29), .load 1 false (.l 28), none⟩, [0]),
       (⟨(.l 30), .lookup .str (.agg [.int .i64 (0), .int .i64 (0), .bool false, .nilmap, .nilfn]) (.l 27) (.l 29) false, none⟩, []),
       (⟨(.p 7), .alloc 141 [.int .i64 (0), .int .i64 (0), .bool false, .nilmap, .nilfn], none⟩, [0, 1, 2, 3]),
       (⟨.no, .store 5 (.p 7) (.l 30), none⟩, [])])
     (.seq (.region [⟨(.l 32), .faddr 3 (.p 7), none⟩,
        ⟨(.l 33), .load 1 false (.l 32), none⟩,
        ⟨(.l 34), .mv (.p 1), none⟩,
        ⟨(.l 35), .lookup .str (.int .i64 (0)) (.l 33) (.l 34) true, none⟩,
        ⟨(.l 31), .mv (.l 35), none⟩,
        ⟨(.l 36), .extract 0 (.l 31), none⟩,
        ⟨(.l 37), .extract 1 (.l 31), none⟩,
        ⟨(.p 8), .mv (.l 36), none⟩,
        ⟨(.p 9), .mv (.l 37), none⟩])
      (.seq (.seq (.region [⟨(.l 38), .mv (.p 9), none⟩,
          ⟨(.l 39), .un .not (.l 38), none⟩])
        (.cond (.l 39)
         (.seq (.region [⟨(.l 40), .build [.str [], .int .i64 (0), .str []] [], none⟩,
            ⟨.no, .store 3 (.p 3) (.l 40), none⟩,
            ⟨(.p 4), .mv (.c (.int .i64 (13))), none⟩])
          (.ret))
         (.skip)))
       (.seq (.seq (.region [⟨(.l 41), .faddr 2 (.p 7), none⟩,
           ⟨(.l 42), .load 1 false (.l 41), none⟩,
           ⟨(.l 43), .un .not (.l 42), none⟩])
         (.cond (.l 43)
          (.region [⟨(.l 44), .faddr 1 (.p 2), none⟩,
            ⟨(.l 45), .load 1 false (.l 44), none⟩,
            ⟨(.l 46), .mv (.p 8), none⟩,
            ⟨(.l 47), .bin .sub (.l 46) (.c (.int .i64 (1))), none⟩,
            ⟨(.l 48), .bin .add (.l 45) (.l 47), none⟩,
            ⟨(.l 49), .faddr 1 (.p 2), none⟩,
            ⟨.no, .store 1 (.l 49) (.l 48), none⟩])
          (.skip)))
        (.seq (.draw [(⟨(.l 50), .faddr 1 (.p 2), none⟩, []),
           (⟨(.l 51), .load 1 false (.l 50), none⟩, []),
           (⟨(.l 52), .faddr 1 (.p 2), none⟩, [0, 1]),
           (⟨(.l 53), .load 1 false (.l 52), none⟩, [0, 1]),
           (⟨(.l 54), .mv (.p 8), none⟩, [0, 1, 2, 3]),
           (⟨(.l 55), .bin .rem (.l 53) (.l 54), none⟩, [0, 1]),
           (⟨(.l 56), .bin .sub (.l 51) (.l 55), none⟩, []),
           (⟨(.l 57), .faddr 1 (.p 2), none⟩, []),
           (⟨.no, .store 1 (.l 57) (.l 56), none⟩, [])])
         (.seq (.seq (.region [⟨(.l 58), .faddr 1 (.p 2), none⟩,
             ⟨(.l 59), .load 1 false (.l 58), none⟩,
             ⟨(.l 60), .faddr 1 (.p 7), none⟩,
             ⟨(.l 61), .load 1 false (.l 60), none⟩,
             ⟨(.l 62), .bin .gtr (.l 59) (.l 61), none⟩])
           (.cond (.l 62)
            (.seq (.region [⟨(.l 63), .build [.str [], .int .i64 (0), .str []] [], none⟩,
               ⟨.no, .store 3 (.p 3) (.l 63), none⟩,
               ⟨(.p 4), .mv (.c (.int .i64 (4))), none⟩])
             (.ret))
            (.skip)))
          (.seq (.region [⟨(.l 64), .load 3 true (.p 2), none⟩,
             ⟨.no, .store 3 (.p 3) (.l 64), none⟩,
             ⟨(.p 4), .mv (.c (.int .i64 (0))), none⟩])
           (.ret))))))))))
theorem ft40 : FT 40 = some ⟨65, [0, 1, 2, 4, 5, 6, 7, 8, 9, 10], [.cell 3 true (.p 3), .var (.p 4)], b40⟩ := by kernel_rfl

/-- stadion/mark.Wind -/
def b42 : ICode :=
 .seq (.region [⟨(.p 1), .mv (.c (.int .i64 (0))), none⟩,
    ⟨(.p 2), .mv (.c (.int .i64 (0))), none⟩])
  (.seq (.seq (.region [⟨(.l 5), .mv (.p 0), none⟩,
      ⟨(.l 6), .call (.c (.fn (.func 95) [] [])) [(.l 5), (.c (.int .i64 (-9999))), (.c (.int .i64 (9999)))], none⟩])
    (.cond (.l 6)
     (.seq (.region [⟨(.p 1), .mv (.c (.int .i64 (0))), none⟩,
        ⟨(.p 2), .mv (.c (.int .i64 (3))), none⟩])
      (.ret))
     (.skip)))
   (.seq (.region [⟨(.l 7), .mv (.p 0), none⟩,
      ⟨(.l 8), .bin .quo (.l 7) (.c (.int .i64 (10))), none⟩,
      ⟨(.p 3), .mv (.l 8), none⟩])
    (.seq (.seq (.region [⟨(.l 9), .mv (.p 0), none⟩,
        ⟨(.l 10), .bin .gtr (.l 9) (.c (.int .i64 (0))), none⟩,
        ⟨(.l 11), .mv (.l 10), none⟩,
        ⟨(.l 12), .mv (.p 0), some ((.l 11), true)⟩,
        ⟨(.l 13), .bin .rem (.l 12) (.c (.int .i64 (10))), some ((.l 11), true)⟩,
        ⟨(.l 14), .bin .neq (.l 13) (.c (.int .i64 (0))), some ((.l 11), true)⟩,
        ⟨(.l 15), .pick (.l 11) (.l 14) (.c (.bool false)), none⟩])
      (.cond (.l 15)
       (.region [⟨(.l 16), .mv (.p 3), none⟩,
         ⟨(.l 17), .bin .add (.l 16) (.c (.int .i64 (1))), none⟩,
         ⟨(.p 3), .mv (.l 17), none⟩])
       (.skip)))
     (.seq (.region [⟨(.l 18), .mv (.p 3), none⟩,
        ⟨(.p 1), .mv (.l 18), none⟩,
        ⟨(.p 2), .mv (.c (.int .i64 (0))), none⟩])
      (.ret)))))
theorem ft42 : FT 42 = some ⟨19, [0, 2, 3, 4], [.var (.p 1), .var (.p 2)], b42⟩ := by kernel_rfl

/-- stadion/stadionref01.IsReason -/
def b109 : ICode :=
 .seq (.region [⟨(.p 1), .mv (.c (.bool false)), none⟩])
  (.seq (.region [⟨(.l 3), .mv (.p 0), none⟩,
     ⟨(.l 4), .bin .eql (.l 3) (.c (.str [68, 78, 83])), none⟩,
     ⟨(.l 5), .mv (.l 4), none⟩,
     ⟨(.l 6), .mv (.p 0), some ((.l 5), false)⟩,
     ⟨(.l 7), .bin .eql (.l 6) (.c (.str [68, 78, 70])), some ((.l 5), false)⟩,
     ⟨(.l 8), .pick (.l 5) (.c (.bool true)) (.l 7), none⟩,
     ⟨(.l 9), .mv (.l 8), none⟩,
     ⟨(.l 10), .mv (.p 0), some ((.l 9), false)⟩,
     ⟨(.l 11), .bin .eql (.l 10) (.c (.str [68, 81])), some ((.l 9), false)⟩,
     ⟨(.l 12), .pick (.l 9) (.c (.bool true)) (.l 11), none⟩,
     ⟨(.l 13), .mv (.l 12), none⟩,
     ⟨(.l 14), .mv (.p 0), some ((.l 13), false)⟩,
     ⟨(.l 15), .bin .eql (.l 14) (.c (.str [78, 77])), some ((.l 13), false)⟩,
     ⟨(.l 16), .pick (.l 13) (.c (.bool true)) (.l 15), none⟩,
     ⟨(.p 1), .mv (.l 16), none⟩])
   (.ret))
theorem ft109 : FT 109 = some ⟨17, [0, 2], [.var (.p 1)], b109⟩ := by kernel_rfl

/-- stadion/stadionref01.least -/
def b110 : ICode :=
 .seq (.region [⟨(.p 1), .mv (.c (.int .i64 (0))), none⟩])
  (.seq (.seq (.region [⟨(.l 3), .mv (.p 0), none⟩,
      ⟨(.l 4), .bin .eql (.l 3) (.c (.str [116, 105, 109, 101])), none⟩])
    (.cond (.l 4)
     (.seq (.region [⟨(.p 1), .mv (.c (.int .i64 (1))), none⟩])
      (.ret))
     (.skip)))
   (.seq (.region [⟨(.p 1), .mv (.c (.int .i64 (0))), none⟩])
    (.ret)))
theorem ft110 : FT 110 = some ⟨5, [0, 2], [.var (.p 1)], b110⟩ := by kernel_rfl

/-- stadion/stadionref01.most -/
def b111 : ICode :=
 .seq (.region [⟨(.p 1), .mv (.c (.int .i64 (0))), none⟩])
  (.seq (.seq (.region [⟨(.p 2), .mv (.p 0), none⟩])
    (.block 0
     (.seq (.region [⟨(.l 5), .bin .eql (.p 2) (.c (.str [116, 105, 109, 101])), none⟩,
        ⟨(.l 4), .mv (.l 5), none⟩])
      (.cond (.l 4)
       (.seq (.region [⟨(.p 1), .mv (.c (.int .i64 (863999999))), none⟩])
        (.ret))
       (.seq (.region [⟨(.l 7), .bin .eql (.p 2) (.c (.str [108, 101, 110, 103, 116, 104])), none⟩,
          ⟨(.l 6), .mv (.l 7), none⟩])
        (.cond (.l 6)
         (.seq (.region [⟨(.p 1), .mv (.c (.int .i64 (999999))), none⟩])
          (.ret))
         (.skip)))))))
   (.seq (.region [⟨(.p 1), .mv (.c (.int .i64 (99999))), none⟩])
    (.ret)))
theorem ft111 : FT 111 = some ⟨8, [0, 2, 3], [.var (.p 1)], b111⟩ := by kernel_rfl

/-- stadion/stadionref01.CheckMark -/
def b35 : ICode :=
 .seq (.region [⟨(.p 1), .box 49 3 (.p 0), none⟩,
    ⟨(.p 2), .mv (.c (.int .i64 (0))), none⟩])
  (.seq (.seq (.region [⟨(.l 3), .faddr 0 (.p 1), none⟩,
      ⟨(.p 3), .load 1 false (.l 3), none⟩])
    (.block 0
     (.seq (.region [⟨(.l 6), .bin .eql (.p 3) (.c (.str [110, 111, 110, 101])), none⟩,
        ⟨(.l 5), .mv (.l 6), none⟩])
      (.cond (.l 5)
       (.seq (.seq (.region [⟨(.l 7), .faddr 2 (.p 1), none⟩,
           ⟨(.l 8), .load 1 false (.l 7), none⟩,
           ⟨(.l 9), .call (.c (.fn (.func 109) [] [])) [(.l 8)], none⟩,
           ⟨(.l 10), .un .not (.l 9), none⟩])
         (.cond (.l 10)
          (.seq (.region [⟨(.p 2), .mv (.c (.int .i64 (1))), none⟩])
           (.ret))
          (.skip)))
        (.seq (.seq (.region [⟨(.l 11), .faddr 1 (.p 1), none⟩,
            ⟨(.l 12), .load 1 false (.l 11), none⟩,
            ⟨(.l 13), .bin .neq (.l 12) (.c (.int .i64 (0))), none⟩])
          (.cond (.l 13)
           (.seq (.region [⟨(.p 2), .mv (.c (.int .i64 (3))), none⟩])
            (.ret))
           (.skip)))
         (.seq (.region [⟨(.p 2), .mv (.c (.int .i64 (0))), none⟩])
          (.ret))))
       (.seq (.seq (.region [⟨(.l 15), .bin .eql (.p 3) (.c (.str [116, 105, 109, 101])), none⟩,
           ⟨(.p 4), .mv (.l 15), none⟩])
         (.cond (.p 4)
          (.skip)
          (.seq (.region [⟨(.l 16), .bin .eql (.p 3) (.c (.str [108, 101, 110, 103, 116, 104])), none⟩,
             ⟨(.p 4), .mv (.l 16), none⟩])
           (.cond (.p 4)
            (.skip)
            (.region [⟨(.l 17), .bin .eql (.p 3) (.c (.str [112, 111, 105, 110, 116, 115])), none⟩,
              ⟨(.p 4), .mv (.l 17), none⟩])))))
        (.cond (.p 4)
         (.seq (.seq (.region [⟨(.l 18), .faddr 2 (.p 1), none⟩,
             ⟨(.l 19), .load 1 false (.l 18), none⟩,
             ⟨(.l 20), .bin .neq (.l 19) (.c (.str [])), none⟩])
           (.cond (.l 20)
            (.seq (.region [⟨(.p 2), .mv (.c (.int .i64 (1))), none⟩])
             (.ret))
            (.skip)))
          (.seq (.seq (.draw [(⟨(.l 21), .faddr 1 (.p 1), none⟩, []),
              (⟨(.l 22), .load 1 false (.l 21), none⟩, []),
              (⟨(.l 23), .faddr 0 (.p 1), none⟩, [0, 1]),
              (⟨(.l 24), .load 1 false (.l 23), none⟩, [0, 1]),
              (⟨(.l 25), .call (.c (.fn (.func 110) [] [])) [(.l 24)], none⟩, [0, 1]),
              (⟨(.l 26), .bin .lss (.l 22) (.l 25), none⟩, []),
              (⟨(.l 27), .mv (.l 26), none⟩, []),
              (⟨(.l 28), .faddr 1 (.p 1), some ((.l 27), false)⟩, []),
              (⟨(.l 29), .load 1 false (.l 28), some ((.l 27), false)⟩, []),
              (⟨(.l 30), .faddr 0 (.p 1), some ((.l 27), false)⟩, [7, 8]),
              (⟨(.l 31), .load 1 false (.l 30), some ((.l 27), false)⟩, [7, 8]),
              (⟨(.l 32), .call (.c (.fn (.func 111) [] [])) [(.l 31)], some ((.l 27), false)⟩, [7, 8]),
              (⟨(.l 33), .bin .gtr (.l 29) (.l 32), some ((.l 27), false)⟩, []),
              (⟨(.l 34), .pick (.l 27) (.c (.bool true)) (.l 33), none⟩, [])])
            (.cond (.l 34)
             (.seq (.region [⟨(.p 2), .mv (.c (.int .i64 (3))), none⟩])
              (.ret))
             (.skip)))
           (.seq (.region [⟨(.p 2), .mv (.c (.int .i64 (0))), none⟩])
            (.ret))))
         (.skip)))))))
   (.seq (.region [⟨(.p 2), .mv (.c (.int .i64 (13))), none⟩])
    (.ret)))
theorem ft35 : FT 35 = some ⟨35, [0, 1, 2, 4, 14], [.var (.p 2)], b35⟩ := by kernel_rfl

/-- stadion/stadionref01.Step -/
def b69 : ICode :=
 .seq (.region [⟨(.p 1), .mv (.c (.int .i64 (0))), none⟩,
    ⟨(.p 2), .mv (.c (.str [])), none⟩])
  (.seq (.seq (.region [⟨(.p 3), .mv (.p 0), none⟩])
    (.block 0
     (.seq (.region [⟨(.l 6), .bin .eql (.p 3) (.c (.str [104, 117, 110, 100, 114, 101, 100, 116, 104, 115])), none⟩,
        ⟨(.l 5), .mv (.l 6), none⟩])
      (.cond (.l 5)
       (.seq (.region [⟨(.p 1), .mv (.c (.int .i64 (100))), none⟩,
          ⟨(.p 2), .mv (.c (.str [116, 105, 109, 101])), none⟩])
        (.ret))
       (.seq (.region [⟨(.l 8), .bin .eql (.p 3) (.c (.str [116, 101, 110, 116, 104, 115])), none⟩,
          ⟨(.l 7), .mv (.l 8), none⟩])
        (.cond (.l 7)
         (.seq (.region [⟨(.p 1), .mv (.c (.int .i64 (1000))), none⟩,
            ⟨(.p 2), .mv (.c (.str [116, 105, 109, 101])), none⟩])
          (.ret))
         (.seq (.region [⟨(.l 10), .bin .eql (.p 3) (.c (.str [99, 101, 110, 116, 105, 109, 101, 116, 114, 101, 115])), none⟩,
            ⟨(.l 9), .mv (.l 10), none⟩])
          (.cond (.l 9)
           (.seq (.region [⟨(.p 1), .mv (.c (.int .i64 (10))), none⟩,
              ⟨(.p 2), .mv (.c (.str [108, 101, 110, 103, 116, 104])), none⟩])
            (.ret))
           (.seq (.region [⟨(.l 12), .bin .eql (.p 3) (.c (.str [101, 120, 97, 99, 116])), none⟩,
              ⟨(.l 11), .mv (.l 12), none⟩])
            (.cond (.l 11)
             (.seq (.region [⟨(.p 1), .mv (.c (.int .i64 (1))), none⟩,
                ⟨(.p 2), .mv (.c (.str [])), none⟩])
              (.ret))
             (.skip)))))))))))
   (.seq (.region [⟨(.p 1), .mv (.c (.int .i64 (0))), none⟩,
      ⟨(.p 2), .mv (.c (.str [])), none⟩])
    (.ret)))
theorem ft69 : FT 69 = some ⟨13, [0, 2, 3, 4], [.var (.p 1), .var (.p 2)], b69⟩ := by kernel_rfl

/-- stadion/stadionref01.Brief -/
def b34 : ICode :=
 .seq (.region [⟨(.p 1), .box 49 3 (.p 0), none⟩,
    ⟨(.p 2), .mv (.c (.bool false)), none⟩])
  (.seq (.region [⟨(.l 3), .faddr 0 (.p 1), none⟩,
     ⟨(.l 4), .load 1 false (.l 3), none⟩,
     ⟨(.l 5), .len .str (.l 4), none⟩,
     ⟨(.l 6), .bin .leq (.l 5) (.c (.int .i64 (40))), none⟩,
     ⟨(.l 7), .mv (.l 6), none⟩,
     ⟨(.l 8), .faddr 2 (.p 1), some ((.l 7), true)⟩,
     ⟨(.l 9), .load 1 false (.l 8), some ((.l 7), true)⟩,
     ⟨(.l 10), .len .str (.l 9), some ((.l 7), true)⟩,
     ⟨(.l 11), .bin .leq (.l 10) (.c (.int .i64 (40))), some ((.l 7), true)⟩,
     ⟨(.l 12), .pick (.l 7) (.l 11) (.c (.bool false)), none⟩,
     ⟨(.p 2), .mv (.l 12), none⟩])
   (.ret))
theorem ft34 : FT 34 = some ⟨13, [0, 1, 2], [.var (.p 2)], b34⟩ := by kernel_rfl

/-- stadion/stadionlaw01.MarkRounds$1 -/
def b70 : ICode :=
 .seq (.region [⟨(.p 1), .mv (.c (.bool false)), none⟩])
  (.seq (.region [⟨(.l 3), .mv (.p 0), none⟩,
     ⟨(.l 4), .bin .eql (.l 3) (.c (.int .i64 (0))), none⟩,
     ⟨(.l 5), .mv (.l 4), none⟩,
     ⟨(.l 6), .mv (.p 0), some ((.l 5), false)⟩,
     ⟨(.l 7), .bin .eql (.l 6) (.c (.int .i64 (13))), some ((.l 5), false)⟩,
     ⟨(.l 8), .pick (.l 5) (.c (.bool true)) (.l 7), none⟩,
     ⟨(.l 9), .mv (.l 8), none⟩,
     ⟨(.l 10), .mv (.p 0), some ((.l 9), false)⟩,
     ⟨(.l 11), .bin .eql (.l 10) (.c (.int .i64 (4))), some ((.l 9), false)⟩,
     ⟨(.l 12), .pick (.l 9) (.c (.bool true)) (.l 11), none⟩,
     ⟨(.p 1), .mv (.l 12), none⟩])
   (.ret))
theorem ft70 : FT 70 = some ⟨13, [0, 2], [.var (.p 1)], b70⟩ := by kernel_rfl

/-- stadion/stadionlaw01.MarkRounds -/
def b11 : ICode :=
 .seq (.region [⟨(.p 3), .box 49 3 (.p 0), none⟩,
    ⟨(.p 4), .box 49 3 (.p 1), none⟩,
    ⟨(.p 5), .mv (.c (.bool false)), none⟩])
  (.seq (.seq (.region [⟨(.l 26), .call (.c (.fn (.func 18) [] [])) [], none⟩,
      ⟨(.l 27), .un .not (.l 26), none⟩,
      ⟨(.l 28), .mv (.l 27), none⟩,
      ⟨(.l 29), .load 3 true (.p 3), some ((.l 28), false)⟩,
      ⟨(.l 30), .call (.c (.fn (.func 34) [] [])) [(.l 29)], some ((.l 28), false)⟩,
      ⟨(.l 31), .un .not (.l 30), some ((.l 28), false)⟩,
      ⟨(.l 32), .pick (.l 28) (.c (.bool true)) (.l 31), none⟩,
      ⟨(.l 33), .mv (.l 32), none⟩,
      ⟨(.l 34), .load 3 true (.p 4), some ((.l 33), false)⟩,
      ⟨(.l 35), .call (.c (.fn (.func 34) [] [])) [(.l 34)], some ((.l 33), false)⟩,
      ⟨(.l 36), .un .not (.l 35), some ((.l 33), false)⟩,
      ⟨(.l 37), .pick (.l 33) (.c (.bool true)) (.l 36), none⟩,
      ⟨(.l 38), .mv (.l 37), none⟩,
      ⟨(.l 39), .mv (.p 2), some ((.l 38), false)⟩,
      ⟨(.l 40), .len .str (.l 39), some ((.l 38), false)⟩,
      ⟨(.l 41), .bin .gtr (.l 40) (.c (.int .i64 (40))), some ((.l 38), false)⟩,
      ⟨(.l 42), .pick (.l 38) (.c (.bool true)) (.l 41), none⟩,
      ⟨(.l 43), .mv (.l 42), none⟩,
      ⟨(.l 44), .load 3 true (.p 3), some ((.l 43), false)⟩,
      ⟨(.l 45), .call (.c (.fn (.func 35) [] [])) [(.l 44)], some ((.l 43), false)⟩,
      ⟨(.l 46), .bin .neq (.l 45) (.c (.int .i64 (0))), some ((.l 43), false)⟩,
      ⟨(.l 47), .pick (.l 43) (.c (.bool true)) (.l 46), none⟩,
      ⟨(.l 48), .mv (.l 47), none⟩,
      ⟨(.l 49), .load 3 true (.p 4), some ((.l 48), false)⟩,
      ⟨(.l 50), .call (.c (.fn (.func 35) [] [])) [(.l 49)], some ((.l 48), false)⟩,
      ⟨(.l 51), .bin .neq (.l 50) (.c (.int .i64 (0))), some ((.l 48), false)⟩,
      ⟨(.l 52), .pick (.l 48) (.c (.bool true)) (.l 51), none⟩,
      ⟨(.l 53), .mv (.l 52), none⟩,
      ⟨(.l 54), .faddr 0 (.p 3), some ((.l 53), false)⟩,
      ⟨(.l 55), .load 1 false (.l 54), some ((.l 53), false)⟩,
      ⟨(.l 56), .faddr 0 (.p 4), some ((.l 53), false)⟩,
      ⟨(.l 57), .load 1 false (.l 56), some ((.l 53), false)⟩,
      ⟨(.l 58), .bin .neq (.l 55) (.l 57), some ((.l 53), false)⟩,
      ⟨(.l 59), .pick (.l 53) (.c (.bool true)) (.l 58), none⟩,
      ⟨(.l 60), .mv (.l 59), none⟩,
      ⟨(.l 61), .faddr 0 (.p 3), some ((.l 60), false)⟩,
      ⟨(.l 62), .load 1 false (.l 61), some ((.l 60), false)⟩,
      ⟨(.l 63), .bin .eql (.l 62) (.c (.str [110, 111, 110, 101])), some ((.l 60), false)⟩,
      ⟨(.l 64), .pick (.l 60) (.c (.bool true)) (.l 63), none⟩,
      ⟨(.l 65), .mv (.l 64), none⟩,
      ⟨(.l 66), .faddr 0 (.p 3), some ((.l 65), false)⟩,
      ⟨(.l 67), .load 1 false (.l 66), some ((.l 65), false)⟩,
      ⟨(.l 68), .bin .eql (.l 67) (.c (.str [112, 111, 105, 110, 116, 115])), some ((.l 65), false)⟩,
      ⟨(.l 69), .pick (.l 65) (.c (.bool true)) (.l 68), none⟩])
    (.cond (.l 69)
     (.seq (.region [⟨(.l 70), .call (.c (.fn (.func 18) [] [])) [], none⟩,
        ⟨(.p 5), .mv (.l 70), none⟩])
      (.ret))
     (.skip)))
   (.seq (.region [⟨(.l 72), .load 3 true (.p 3), none⟩,
      ⟨(.l 73), .mv (.p 2), none⟩,
      ⟨(.l 74), .call (.c (.fn (.func 40) [] [])) [(.l 72), (.l 73)], none⟩,
      ⟨(.l 71), .mv (.l 74), none⟩,
      ⟨(.l 75), .extract 0 (.l 71), none⟩,
      ⟨(.l 76), .extract 1 (.l 71), none⟩,
      ⟨(.p 6), .alloc 49 [.str [], .int .i64 (0), .str []], none⟩,
      ⟨.no, .store 3 (.p 6) (.l 75), none⟩,
      ⟨(.p 7), .mv (.l 76), none⟩])
    (.seq (.region [⟨(.l 78), .load 3 true (.p 4), none⟩,
       ⟨(.l 79), .mv (.p 2), none⟩,
       ⟨(.l 80), .call (.c (.fn (.func 40) [] [])) [(.l 78), (.l 79)], none⟩,
       ⟨(.l 77), .mv (.l 80), none⟩,
       ⟨(.l 81), .extract 0 (.l 77), none⟩,
       ⟨(.l 82), .extract 1 (.l 77), none⟩,
       ⟨(.p 8), .alloc 49 [.str [], .int .i64 (0), .str []], none⟩,
       ⟨.no, .store 3 (.p 8) (.l 81), none⟩,
       ⟨(.p 9), .mv (.l 82), none⟩])
     (.seq (.region [⟨(.l 84), .mv (.p 2), none⟩,
        ⟨(.l 85), .call (.c (.fn (.func 69) [] [])) [(.l 84)], none⟩,
        ⟨(.l 83), .mv (.l 85), none⟩,
        ⟨(.l 86), .extract 0 (.l 83), none⟩,
        ⟨(.l 87), .extract 1 (.l 83), none⟩,
        ⟨(.p 10), .mv (.l 86), none⟩,
        ⟨(.l 12), .mv (.l 87), none⟩])
      (.seq (.seq (.region [⟨(.l 88), .mv (.p 7), none⟩,
          ⟨(.l 89), .bin .neq (.l 88) (.c (.int .i64 (0))), none⟩,
          ⟨(.l 90), .mv (.l 89), none⟩,
          ⟨(.l 91), .mv (.p 9), some ((.l 90), false)⟩,
          ⟨(.l 92), .bin .neq (.l 91) (.c (.int .i64 (0))), some ((.l 90), false)⟩,
          ⟨(.l 93), .pick (.l 90) (.c (.bool true)) (.l 92), none⟩])
        (.cond (.l 93)
         (.seq (.region [⟨(.p 11), .mv (.c (.fn (.func 70) [] [])), none⟩])
          (.seq (.region [⟨(.l 94), .mv (.p 11), none⟩,
             ⟨(.l 95), .mv (.p 7), none⟩,
             ⟨(.l 96), .call (.l 94) [(.l 95)], none⟩,
             ⟨(.l 97), .mv (.l 96), none⟩,
             ⟨(.l 98), .mv (.p 11), some ((.l 97), true)⟩,
             ⟨(.l 99), .mv (.p 9), some ((.l 97), true)⟩,
             ⟨(.l 100), .call (.l 98) [(.l 99)], some ((.l 97), true)⟩,
             ⟨(.l 101), .pick (.l 97) (.l 100) (.c (.bool false)), none⟩,
             ⟨(.p 5), .mv (.l 101), none⟩])
           (.ret)))
         (.skip)))
       (.seq (.seq (.region [⟨(.l 102), .mv (.p 10), none⟩,
           ⟨(.l 103), .bin .eql (.l 102) (.c (.int .i64 (0))), none⟩,
           ⟨(.l 104), .mv (.l 103), none⟩,
           ⟨(.l 105), .faddr 0 (.p 6), some ((.l 104), false)⟩,
           ⟨(.l 106), .load 1 false (.l 105), some ((.l 104), false)⟩,
           ⟨(.l 107), .faddr 0 (.p 3), some ((.l 104), false)⟩,
           ⟨(.l 108), .load 1 false (.l 107), some ((.l 104), false)⟩,
           ⟨(.l 109), .bin .neq (.l 106) (.l 108), some ((.l 104), false)⟩,
           ⟨(.l 110), .pick (.l 104) (.c (.bool true)) (.l 109), none⟩,
           ⟨(.l 111), .mv (.l 110), none⟩,
           ⟨(.l 112), .faddr 1 (.p 6), some ((.l 111), false)⟩,
           ⟨(.l 113), .load 1 false (.l 112), some ((.l 111), false)⟩,
           ⟨(.l 114), .mv (.p 10), some ((.l 111), false)⟩,
           ⟨(.l 115), .bin .rem (.l 113) (.l 114), some ((.l 111), false)⟩,
           ⟨(.l 116), .bin .neq (.l 115) (.c (.int .i64 (0))), some ((.l 111), false)⟩,
           ⟨(.l 117), .pick (.l 111) (.c (.bool true)) (.l 116), none⟩])
         (.cond (.l 117)
          (.seq (.region [⟨(.p 5), .mv (.c (.bool false)), none⟩])
           (.ret))
          (.skip)))
        (.seq (.region [⟨(.l 118), .faddr 1 (.p 6), none⟩,
           ⟨(.l 119), .load 1 false (.l 118), none⟩,
           ⟨(.l 120), .faddr 1 (.p 3), none⟩,
           ⟨(.l 121), .load 1 false (.l 120), none⟩,
           ⟨(.l 122), .bin .sub (.l 119) (.l 121), none⟩,
           ⟨(.p 12), .mv (.l 122), none⟩])
         (.seq (.seq (.region [⟨(.l 123), .faddr 0 (.p 3), none⟩,
             ⟨(.l 124), .load 1 false (.l 123), none⟩,
             ⟨(.l 125), .bin .eql (.l 124) (.c (.str [108, 101, 110, 103, 116, 104])), none⟩])
           (.cond (.l 125)
            (.region [⟨(.l 126), .mv (.p 12), none⟩,
              ⟨(.l 127), .un .neg (.l 126), none⟩,
              ⟨(.p 12), .mv (.l 127), none⟩])
            (.skip)))
          (.seq (.region [⟨(.l 129), .load 3 true (.p 6), none⟩,
             ⟨(.l 130), .mv (.p 2), none⟩,
             ⟨(.l 131), .call (.c (.fn (.func 40) [] [])) [(.l 129), (.l 130)], none⟩,
             ⟨(.l 128), .mv (.l 131), none⟩,
             ⟨(.l 132), .extract 0 (.l 128), none⟩,
             ⟨(.l 133), .extract 1 (.l 128), none⟩,
             ⟨(.p 13), .alloc 49 [.str [], .int .i64 (0), .str []], none⟩,
             ⟨.no, .store 3 (.p 13) (.l 132), none⟩,
             ⟨(.p 14), .mv (.l 133), none⟩])
           (.seq (.region [⟨(.l 135), .load 3 true (.p 6), none⟩,
              ⟨(.l 136), .load 3 true (.p 3), none⟩,
              ⟨(.l 137), .call (.c (.fn (.func 37) [] [])) [(.l 135), (.l 136)], none⟩,
              ⟨(.l 134), .mv (.l 137), none⟩,
              ⟨(.l 138), .extract 0 (.l 134), none⟩,
              ⟨(.l 139), .extract 1 (.l 134), none⟩,
              ⟨(.p 15), .mv (.l 138), none⟩,
              ⟨(.p 16), .mv (.l 139), none⟩])
            (.seq (.region [⟨(.l 141), .load 3 true (.p 3), none⟩,
               ⟨(.l 142), .load 3 true (.p 4), none⟩,
               ⟨(.l 143), .call (.c (.fn (.func 37) [] [])) [(.l 141), (.l 142)], none⟩,
               ⟨(.l 140), .mv (.l 143), none⟩,
               ⟨(.l 144), .extract 0 (.l 140), none⟩,
               ⟨(.l 145), .extract 1 (.l 140), none⟩,
               ⟨(.p 17), .mv (.l 144), none⟩,
               ⟨(.p 18), .mv (.l 145), none⟩])
             (.seq (.region [⟨(.l 147), .load 3 true (.p 6), none⟩,
                ⟨(.l 148), .load 3 true (.p 8), none⟩,
                ⟨(.l 149), .call (.c (.fn (.func 37) [] [])) [(.l 147), (.l 148)], none⟩,
                ⟨(.l 146), .mv (.l 149), none⟩,
                ⟨(.l 150), .extract 0 (.l 146), none⟩,
                ⟨(.l 151), .extract 1 (.l 146), none⟩,
                ⟨(.p 19), .mv (.l 150), none⟩,
                ⟨(.p 20), .mv (.l 151), none⟩])
              (.seq (.seq (.region [⟨(.l 152), .mv (.p 14), none⟩,
                  ⟨(.l 153), .mv (.p 16), none⟩,
                  ⟨(.l 154), .bin .add (.l 152) (.l 153), none⟩,
                  ⟨(.l 155), .mv (.p 18), none⟩,
                  ⟨(.l 156), .bin .add (.l 154) (.l 155), none⟩,
                  ⟨(.l 157), .mv (.p 20), none⟩,
                  ⟨(.l 158), .bin .add (.l 156) (.l 157), none⟩,
                  ⟨(.l 159), .bin .neq (.l 158) (.c (.int .i64 (0))), none⟩,
                  ⟨(.l 160), .mv (.l 159), none⟩,
                  ⟨(.l 161), .mv (.p 12), some ((.l 160), false)⟩,
                  ⟨(.l 162), .bin .lss (.l 161) (.c (.int .i64 (0))), some ((.l 160), false)⟩,
                  ⟨(.l 163), .pick (.l 160) (.c (.bool true)) (.l 162), none⟩,
                  ⟨(.l 164), .mv (.l 163), none⟩,
                  ⟨(.l 165), .mv (.p 12), some ((.l 164), false)⟩,
                  ⟨(.l 166), .mv (.p 10), some ((.l 164), false)⟩,
                  ⟨(.l 167), .bin .geq (.l 165) (.l 166), some ((.l 164), false)⟩,
                  ⟨(.l 168), .pick (.l 164) (.c (.bool true)) (.l 167), none⟩,
                  ⟨(.l 169), .mv (.l 168), none⟩,
                  ⟨(.l 170), .load 3 true (.p 13), some ((.l 169), false)⟩,
                  ⟨(.l 171), .load 3 true (.p 6), some ((.l 169), false)⟩,
                  ⟨(.l 172), .eq true (.strct [(0, 1, false, .str), (1, 1, false, .int), (2, 1, false, .str)]) (.l 170) (.l 171), some ((.l 169), false)⟩,
                  ⟨(.l 173), .pick (.l 169) (.c (.bool true)) (.l 172), none⟩,
                  ⟨(.l 174), .mv (.l 173), none⟩,
                  ⟨(.l 175), .mv (.p 15), some ((.l 174), false)⟩,
                  ⟨(.l 176), .bin .lss (.l 175) (.c (.int .i64 (0))), some ((.l 174), false)⟩,
                  ⟨(.l 177), .pick (.l 174) (.c (.bool true)) (.l 176), none⟩,
                  ⟨(.l 178), .mv (.l 177), none⟩,
                  ⟨(.l 179), .mv (.p 17), some ((.l 178), false)⟩,
                  ⟨(.l 180), .mv (.p 19), some ((.l 178), false)⟩,
                  ⟨(.l 181), .bin .mul (.l 179) (.l 180), some ((.l 178), false)⟩,
                  ⟨(.l 182), .bin .lss (.l 181) (.c (.int .i64 (0))), some ((.l 178), false)⟩,
                  ⟨(.l 183), .pick (.l 178) (.c (.bool true)) (.l 182), none⟩,
                  ⟨(.l 184), .mv (.l 183), none⟩,
                  ⟨(.l 185), .mv (.p 17), some ((.l 184), false)⟩,
                  ⟨(.l 186), .bin .eql (.l 185) (.c (.int .i64 (0))), some ((.l 184), false)⟩,
                  ⟨(.l 187), .mv (.l 186), some ((.l 184), false)⟩,
                  ⟨(.l 188), .mv (.p 19), some ((.l 187), true)⟩,
                  ⟨(.l 189), .bin .neq (.l 188) (.c (.int .i64 (0))), some ((.l 187), true)⟩,
                  ⟨(.l 190), .pick (.l 187) (.l 189) (.c (.bool false)), some ((.l 184), false)⟩,
                  ⟨(.l 191), .pick (.l 184) (.c (.bool true)) (.l 190), none⟩])
                (.cond (.l 191)
                 (.seq (.region [⟨(.p 5), .mv (.c (.bool false)), none⟩])
                  (.ret))
                 (.skip)))
               (.seq (.region [⟨(.l 192), .faddr 1 (.p 3), none⟩,
                  ⟨(.l 193), .load 1 false (.l 192), none⟩,
                  ⟨(.l 194), .bin .rem (.l 193) (.c (.int .i64 (19999))), none⟩,
                  ⟨(.p 21), .mv (.l 194), none⟩])
                (.seq (.region [⟨(.l 196), .mv (.p 21), none⟩,
                   ⟨(.l 197), .bin .sub (.l 196) (.c (.int .i64 (9999))), none⟩,
                   ⟨(.l 198), .call (.c (.fn (.func 42) [] [])) [(.l 197)], none⟩,
                   ⟨(.l 195), .mv (.l 198), none⟩,
                   ⟨(.l 199), .extract 0 (.l 195), none⟩,
                   ⟨(.l 200), .extract 1 (.l 195), none⟩,
                   ⟨(.p 22), .mv (.l 199), none⟩,
                   ⟨(.p 23), .mv (.l 200), none⟩])
                 (.seq (.region [⟨(.l 201), .mv (.p 23), none⟩,
                    ⟨(.l 202), .bin .eql (.l 201) (.c (.int .i64 (0))), none⟩,
                    ⟨(.l 203), .mv (.l 202), none⟩,
                    ⟨(.l 204), .mv (.p 22), some ((.l 203), true)⟩,
                    ⟨(.l 205), .bin .mul (.c (.int .i64 (10))) (.l 204), some ((.l 203), true)⟩,
                    ⟨(.l 206), .mv (.p 21), some ((.l 203), true)⟩,
                    ⟨(.l 207), .bin .sub (.l 206) (.c (.int .i64 (9999))), some ((.l 203), true)⟩,
                    ⟨(.l 208), .bin .geq (.l 205) (.l 207), some ((.l 203), true)⟩,
                    ⟨(.l 209), .pick (.l 203) (.l 208) (.c (.bool false)), none⟩,
                    ⟨(.l 210), .mv (.l 209), none⟩,
                    ⟨(.l 211), .mv (.p 22), some ((.l 210), true)⟩,
                    ⟨(.l 212), .bin .sub (.l 211) (.c (.int .i64 (1))), some ((.l 210), true)⟩,
                    ⟨(.l 213), .bin .mul (.c (.int .i64 (10))) (.l 212), some ((.l 210), true)⟩,
                    ⟨(.l 214), .mv (.p 21), some ((.l 210), true)⟩,
                    ⟨(.l 215), .bin .sub (.l 214) (.c (.int .i64 (9999))), some ((.l 210), true)⟩,
                    ⟨(.l 216), .bin .lss (.l 213) (.l 215), some ((.l 210), true)⟩,
                    ⟨(.l 217), .pick (.l 210) (.l 216) (.c (.bool false)), none⟩,
                    ⟨(.p 5), .mv (.l 217), none⟩])
                  (.ret)))))))))))))))))
theorem ft11 : FT 11 = some ⟨218, [0, 1, 2, 3, 4, 6, 7, 8, 9, 10, 11, 13, 14, 15, 16, 17, 18, 19, 20, 21, 22, 23, 24, 25], [.var (.p 5)], b11⟩ := by kernel_rfl

/-- slices.Contains[[]string,string] -/
def b116 : ICode :=
 .seq (.region [⟨(.p 2), .mv (.c (.bool false)), none⟩])
  (.seq (.region [⟨(.l 5), .mv (.p 0), none⟩,
     ⟨(.l 6), .mv (.p 1), none⟩,
     ⟨(.l 7), .call (.c (.fn (.func 185) [] [])) [(.l 5), (.l 6)], none⟩,
     ⟨(.l 8), .bin .geq (.l 7) (.c (.int .i64 (0))), none⟩,
     ⟨(.p 2), .mv (.l 8), none⟩])
   (.ret))
theorem ft116 : FT 116 = some ⟨9, [0, 1, 4], [.var (.p 2)], b116⟩ := by kernel_rfl

def b185_0 : ICode :=
 .seq (.region [⟨(.l 9), .bin .lss (.p 5) (.p 4), none⟩])
  (.seq (.cond (.l 9)
    (.skip)
    (.exit 0))
   (.seq (.block 1
     (.seq (.region [⟨(.l 10), .mv (.p 5), none⟩,
        ⟨(.p 3), .mv (.l 10), none⟩])
      (.seq (.region [⟨(.l 11), .mv (.p 1), none⟩,
         ⟨(.l 12), .mv (.p 0), none⟩,
         ⟨(.l 13), .mv (.p 3), none⟩,
         ⟨(.l 14), .iaddr none 1 (.l 12) (.l 13), none⟩,
         ⟨(.l 15), .load 1 false (.l 14), none⟩,
         ⟨(.l 16), .bin .eql (.l 11) (.l 15), none⟩])
       (.cond (.l 16)
        (.seq (.region [⟨(.l 17), .mv (.p 3), none⟩,
           ⟨(.p 2), .mv (.l 17), none⟩])
         (.ret))
        (.skip)))))
    (.region [⟨(.l 18), .bin .add (.p 5) (.c (.int .i64 (1))), none⟩,
      ⟨(.p 5), .mv (.l 18), none⟩])))
/-- slices.Index[[]string,string] -/
def b185 : ICode :=
 .seq (.region [⟨(.p 2), .mv (.c (.int .i64 (0))), none⟩])
  (.seq (.seq (.region [⟨(.l 6), .mv (.p 0), none⟩,
      ⟨(.p 4), .len .sl (.l 6), none⟩,
      ⟨(.p 5), .mv (.c (.int .i64 (0))), none⟩])
    (.block 0
     (.loop b185_0)))
   (.seq (.region [⟨(.p 2), .mv (.c (.int .i64 (-1))), none⟩])
    (.ret)))
theorem ft185 : FT 185 = some ⟨19, [0, 1, 4, 5, 7, 8], [.var (.p 2)], b185⟩ := by kernel_rfl

end Go.Ab.Ch1


/-
  Own work: marks of chapter 1: the contracts of the checks, of the order and of rounding.
-/
namespace Go.Ab.Ch1
variable {inv : InvF} {F : FuncId → Option IFunc}

abbrev sNone : List UInt8 := [110, 111, 110, 101]
abbrev sTime : List UInt8 := [116, 105, 109, 101]
abbrev sLength : List UInt8 := [108, 101, 110, 103, 116, 104]
abbrev sPoints : List UInt8 := [112, 111, 105, 110, 116, 115]
abbrev sExact : List UInt8 := [101, 120, 97, 99, 116]
abbrev sHund : List UInt8 := [104, 117, 110, 100, 114, 101, 100, 116, 104, 115]
abbrev sTenths : List UInt8 := [116, 101, 110, 116, 104, 115]
abbrev sCent : List UInt8 := [99, 101, 110, 116, 105, 109, 101, 116, 114, 101, 115]
abbrev mkM (k : List UInt8) (v : Int) (r : List UInt8) : AV := .agg [.str k, .int .i64 v, .str r]

def indexOf (x : List UInt8) : List (List UInt8) → Nat → Int
  | [], _ => -1
  | a :: l, i => if x = a then i else indexOf x l (i + 1)
theorem indexOf_drop {x : List UInt8} {l : List (List UInt8)} {i : Nat} (h : i < l.length) : indexOf x (l.drop i) i = if x = l[i]! then (i : Int) else indexOf x (l.drop (i + 1)) (i + 1) := by
  rw [List.drop_eq_getElem_cons h, getElem!_pos l i h, indexOf]
theorem indexOf_mem {x : List UInt8} : ∀ (l : List (List UInt8)) (i : Nat), decide (0 ≤ indexOf x l i) = decide (x ∈ l)
  | [], i => by simp [indexOf]
  | a :: l, i => by
    rw [indexOf]
    split
    · rename_i h; subst h; simp
    · rename_i h; rw [indexOf_mem l (i + 1)]; simp [h]
theorem body185 {T : List (Nat × Spec)} (l : List (List UInt8)) (x : List UInt8) (cap : Option Nat) (hl : l.length < 4611686018427387904) (hp : Heap) (df : List Nat) {Q : Ex → StW → Prop} : ∀ (r i : Nat), i + r = l.length → ∀ (a2 a3 : AV) (lo : List (Nat × AV)) (wr : List Nat),
    (indexOf x (l.drop i) i = -1 → ∀ a3 lo wr, Q (.exit 0) ⟨⟨[.vs (strs l) l.length cap, .str x, a2, a3, .int .i64 l.length, .int .i64 l.length], lo, hp, df⟩, wr⟩) →
    (∀ a3 a5 lo wr, Q .ret ⟨⟨[.vs (strs l) l.length cap, .str x, .int .i64 (indexOf x (l.drop i) i), a3, .int .i64 l.length, a5], lo, hp, df⟩, wr⟩) →
    W (mk0 T inv F) (.loop b185_0) ⟨⟨[.vs (strs l) l.length cap, .str x, a2, a3, .int .i64 l.length, .int .i64 i], lo, hp, df⟩, wr⟩ Q
  | 0, i, hi, a2, a3, lo, wr, h1, h2 => by
    obtain rfl : i = l.length := by omega
    refine W.loop ?_
    unfold b185_0
    repeat' first | apply W.seq | apply SQn | apply W.region | apply WO.nil | apply W.block | apply W.ret | apply W.exit | apply W.skip | apply SQr | apply SQe | apply BQn | apply BQr | apply BQe | (apply BQo; exact rfl) | apply LQe | apply LQr | (apply W.condT; exact rfl) | (apply W.condF; exact rfl) | (apply W.cond; exact rfl; all_goals intro _) | (apply WO.lss; exact rfl; exact rfl; all_goals first | (intro _; exfalso; omega) | intro _) | (apply WO.eql; exact rfl; exact rfl; all_goals first | (intro _; exfalso; omega) | intro _) | (apply WO.add; exact rfl; exact rfl; omega) | (apply WO.iav; exact rfl; exact rfl; omega) | (apply WO.ias; exact rfl; exact rfl; omega) | (apply WO.lda; exact rfl; exact fun _ => rfl; (first | omega | (simp only [List.length_set]; omega) | (simp; omega)); decide; exact rfl; case ia => infer_instance) | (apply WO.lsa; exact rfl; (first | exact rfl | assumption | exact at_new | (apply at_old; assumption) | (apply at_put; first | assumption | (simp only [put_length]; assumption))); exact fun _ => rfl; (first | omega | (simp only [List.length_set]; omega) | (simp; omega)); decide; exact rfl; case ia => infer_instance) | (apply WO.seql; exact rfl; exact rfl; all_goals first | (intro h; exact absurd h (by decide)) | (intro h; exact absurd rfl h) | (intro h; contradiction) | intro _) | (apply WO.hlv; exact rfl; exact rfl; exact rfl) | (apply WO.hpv; exact rfl; exact rfl; exact rfl) | (apply WO.hnv; exact rfl; exact rfl; exact rfl) | (apply WO.pl; exact rfl; exact rfl) | (apply WO.pp; exact rfl; exact rfl)
    exact h1 (by simp [indexOf]) _ _ _
  | r + 1, i, hi, a2, a3, lo, wr, h1, h2 => by
    have e := indexOf_drop (x := x) (l := l) (i := (i : Int).toNat) (by omega)
    rw [Int.toNat_natCast] at e
    refine W.loop ?_
    unfold b185_0
    repeat' first | apply W.seq | apply SQn | apply W.region | apply WO.nil | apply W.block | apply W.ret | apply W.exit | apply W.skip | apply SQr | apply SQe | apply BQn | apply BQr | apply BQe | (apply BQo; exact rfl) | apply LQe | apply LQr | (apply W.condT; exact rfl) | (apply W.condF; exact rfl) | (apply W.cond; exact rfl; all_goals intro _) | (apply WO.lss; exact rfl; exact rfl; all_goals first | (intro _; exfalso; omega) | intro _) | (apply WO.eql; exact rfl; exact rfl; all_goals first | (intro _; exfalso; omega) | intro _) | (apply WO.add; exact rfl; exact rfl; omega) | (apply WO.iav; exact rfl; exact rfl; omega) | (apply WO.ias; exact rfl; exact rfl; omega) | (apply WO.lda; exact rfl; exact fun _ => rfl; (first | omega | (simp only [List.length_set]; omega) | (simp; omega)); decide; exact rfl; case ia => infer_instance) | (apply WO.lsa; exact rfl; (first | exact rfl | assumption | exact at_new | (apply at_old; assumption) | (apply at_put; first | assumption | (simp only [put_length]; assumption))); exact fun _ => rfl; (first | omega | (simp only [List.length_set]; omega) | (simp; omega)); decide; exact rfl; case ia => infer_instance) | (apply WO.seql; exact rfl; exact rfl; all_goals first | (intro h; exact absurd h (by decide)) | (intro h; exact absurd rfl h) | (intro h; contradiction) | intro _) | (apply WO.hlv; exact rfl; exact rfl; exact rfl) | (apply WO.hpv; exact rfl; exact rfl; exact rfl) | (apply WO.hnv; exact rfl; exact rfl; exact rfl) | (apply WO.pl; exact rfl; exact rfl) | (apply WO.pp; exact rfl; exact rfl)
    · rename_i he
      rw [Int.toNat_natCast] at he
      rw [if_pos he] at e
      rw [e] at h2
      exact h2 _ _ _ _
    · rename_i he
      rw [Int.toNat_natCast] at he
      rw [if_neg he] at e
      rw [e] at h1 h2
      exact LQn (body185 l x cap hl hp df r (i + 1) (by omega) _ _ _ _ h1 h2)
theorem w185 {T : List (Nat × Spec)} (hft : F = FT) (l : List (List UInt8)) (x : List UInt8) (cap : Option Nat) (hl : l.length < 4611686018427387904) : Run (mk0 T inv F) 185 [.vs (strs l) l.length cap, .str x] [] ⟨.int .i64 (indexOf x l 0), [], []⟩ := by
  refine run_of_W (show F 185 = _ from by rw [hft]; exact ft185) (by simp) ?_
  unfold b185
  simp only [List.map_cons, List.map_nil, List.getElem?_cons_zero, List.getElem?_cons_succ, List.getElem?_nil, Option.getD_some, Option.getD_none]
  repeat' first | apply W.seq | apply SQn | apply W.region | apply WO.nil | apply W.block | apply W.ret | apply W.exit | apply W.skip | apply SQr | apply SQe | apply BQn | apply BQr | apply BQe | (apply BQo; exact rfl) | apply LQe | apply LQr | (apply W.condT; exact rfl) | (apply W.condF; exact rfl) | (apply W.cond; exact rfl; all_goals intro _) | (apply WO.pl; exact rfl; exact rfl) | (apply WO.pp; exact rfl; exact rfl)
  refine body185 l x cap hl _ _ l.length 0 (by omega) _ _ _ _ (fun h a2 lo wr => ?_) (fun a2 a5 lo wr => ?_)
  · repeat' first | apply W.seq | apply SQn | apply W.region | apply WO.nil | apply W.block | apply W.ret | apply W.exit | apply W.skip | apply SQr | apply SQe | apply BQn | apply BQr | apply BQe | (apply BQo; exact rfl) | apply LQe | apply LQr | (apply W.condT; exact rfl) | (apply W.condF; exact rfl) | (apply W.cond; exact rfl; all_goals intro _) | (apply WO.pl; exact rfl; exact rfl) | (apply WO.pp; exact rfl; exact rfl)
    exact ⟨.inr rfl, rfl, _, rfl, by rw [List.drop_zero] at h; rw [h]; rfl, rfl⟩
  · repeat' first | apply W.seq | apply SQn | apply W.region | apply WO.nil | apply W.block | apply W.ret | apply W.exit | apply W.skip | apply SQr | apply SQe | apply BQn | apply BQr | apply BQe | (apply BQo; exact rfl) | apply LQe | apply LQr | (apply W.condT; exact rfl) | (apply W.condF; exact rfl) | (apply W.cond; exact rfl; all_goals intro _) | (apply WO.pl; exact rfl; exact rfl) | (apply WO.pp; exact rfl; exact rfl)
    exact ⟨.inr rfl, rfl, _, rfl, rfl, rfl⟩

def specIndex : Spec := fun
  | [v, .str x], h => match strsAt h v with
    | some l => if l.length < 4611686018427387904 then some ⟨.int .i64 (indexOf x l 0), h, []⟩ else none
    | none => none
  | _, _ => none
def specContains : Spec := fun
  | [v, .str x], h => match strsAt h v with
    | some l => if l.length < 4611686018427387904 then some ⟨.bool (decide (x ∈ l)), h, []⟩ else none
    | none => none
  | _, _ => none
theorem strsAt_vs {h : Heap} {l : List (List UInt8)} {cap : Option Nat} : strsAt h (.vs (strs l) l.length cap) = some l := by
  simp only [strsAt, cellsAt, sliceCells, decStrs_strs, if_true]

theorem w116 {T : List (Nat × Spec)} (hft : F = FT) (l : List (List UInt8)) (x : List UInt8) (cap : Option Nat) (hl : l.length < 4611686018427387904) : Run (mk0 ((185, specIndex) :: T) inv F) 116 [.vs (strs l) l.length cap, .str x] [] ⟨.bool (decide (x ∈ l)), [], []⟩ := by
  have hi : ∀ h, (mk0 ((185, specIndex) :: T) inv F).ext 185 [.vs (strs l) l.length cap, .str x] h = some ⟨.int .i64 (indexOf x l 0), h, []⟩ := fun h => by
    show extS _ _ _ _ = _
    simp only [ext_hd, specIndex, strsAt_vs, if_pos hl]
  refine run_of_W (show F 116 = _ from by rw [hft]; exact ft116) (by simp) ?_
  unfold b116
  simp only [List.map_cons, List.map_nil, List.getElem?_cons_zero, List.getElem?_cons_succ, List.getElem?_nil, Option.getD_some, Option.getD_none]
  have hm := indexOf_mem (x := x) l 0
  repeat' first | apply W.seq | apply SQn | apply W.region | apply WO.nil | apply W.block | apply W.ret | apply W.exit | apply W.skip | apply SQr | apply SQe | apply BQn | apply BQr | apply BQe | (apply BQo; exact rfl) | apply LQe | apply LQr | (apply W.condT; exact rfl) | (apply W.condF; exact rfl) | (apply W.cond; exact rfl; all_goals intro _) | (apply WO.geq; exact rfl; exact rfl; all_goals first | (intro _; exfalso; omega) | intro _) | (apply WO.cll; exact rfl; exact rfl; first | exact hi _) | (apply WO.clb; exact rfl; exact rfl; exact rfl; all_goals first | (intro h; exact absurd h (by decide)) | intro _) | (apply WO.cll; exact rfl; exact rfl; exact rfl) | (apply WO.pl; exact rfl; exact rfl) | (apply WO.pp; exact rfl; exact rfl)
  all_goals refine ⟨.inr rfl, rfl, _, rfl, ?_, rfl⟩
  all_goals rw [← hm]
  · rename_i h; rw [decide_eq_true h]; rfl
  · rename_i h; rw [decide_eq_false (by omega)]; rfl

/-! mark.isReason, mark.kinds. -/
abbrev reasons : List (List UInt8) := [[68, 78, 83], [68, 78, 70], [68, 81], [78, 77]]
def specReason : Spec := fun
  | [.str x], h => some ⟨.bool (decide (x ∈ reasons)), h, []⟩
  | _, _ => none
theorem w112 {T : List (Nat × Spec)} (hft : F = FT) (x : List UInt8) : Run (mk0 ((116, specContains) :: T) inv F) 112 [.str x] [] ⟨.bool (decide (x ∈ reasons)), [], []⟩ := by
  refine run_of_W (show F 112 = _ from by rw [hft]; exact ft112) (by simp) ?_
  unfold b112
  simp only [List.map_cons, List.map_nil, List.getElem?_cons_zero, List.getElem?_cons_succ, List.getElem?_nil, Option.getD_some, Option.getD_none]
  repeat' first | apply W.seq | apply SQn | apply W.region | apply WO.nil | apply W.block | apply W.ret | apply W.exit | apply W.skip | apply SQr | apply SQe | apply BQn | apply BQr | apply BQe | (apply BQo; exact rfl) | apply LQe | apply LQr | (apply W.condT; exact rfl) | (apply W.condF; exact rfl) | (apply W.cond; exact rfl; all_goals intro _) | (apply WO.clb; exact rfl; exact rfl; exact rfl; all_goals first | (intro h; exact absurd h (by decide)) | intro _) | (apply WO.cll; exact rfl; exact rfl; exact rfl) | (apply WO.hlv; exact rfl; exact rfl; exact rfl) | (apply WO.hpv; exact rfl; exact rfl; exact rfl) | (apply WO.hnv; exact rfl; exact rfl; exact rfl) | (apply WO.pl; exact rfl; exact rfl) | (apply WO.pp; exact rfl; exact rfl)
  all_goals (rename_i h; exact ⟨.inr rfl, rfl, _, rfl, by rw [h]; rfl, rfl⟩)
theorem w109 {T : List (Nat × Spec)} (hft : F = FT) (x : List UInt8) : Run (mk0 T inv F) 109 [.str x] [] ⟨.bool (decide (x ∈ reasons)), [], []⟩ := by
  refine run_of_W (show F 109 = _ from by rw [hft]; exact ft109) (by simp) ?_
  unfold b109
  simp only [List.map_cons, List.map_nil, List.getElem?_cons_zero, List.getElem?_cons_succ, List.getElem?_nil, Option.getD_some, Option.getD_none]
  repeat' first | apply W.seq | apply SQn | apply W.region | apply WO.nil | apply W.block | apply W.ret | apply W.exit | apply W.skip | apply SQr | apply SQe | apply BQn | apply BQr | apply BQe | (apply BQo; exact rfl) | apply LQe | apply LQr | (apply W.condT; exact rfl) | (apply W.condF; exact rfl) | (apply W.cond; exact rfl; all_goals intro _) | (apply WO.gT; exact rfl) | (apply WO.gF; exact rfl) | (apply WO.sT; exact rfl) | (apply WO.sF; exact rfl) | (apply WO.sU; exact rfl) | (apply WO.eql; exact rfl; exact rfl; all_goals first | (intro _; exfalso; omega) | intro _) | (apply WO.pkT; exact rfl; exact rfl) | (apply WO.pkF; exact rfl; exact rfl) | (apply WO.seql; exact rfl; exact rfl; all_goals first | (intro h; exact absurd h (by decide)) | (intro h; exact absurd rfl h) | (intro h; contradiction) | intro _) | (apply WO.pl; exact rfl; exact rfl) | (apply WO.pp; exact rfl; exact rfl)
  all_goals exact ⟨.inr rfl, rfl, _, rfl, by simp [tupA, *], rfl⟩

abbrev rTime (N : Nat) : AV := .agg [.int .i64 1, .int .i64 863999999, .bool false, .map (N + 1), .fn (.func 180) [] []]
abbrev rLength (N : Nat) : AV := .agg [.int .i64 0, .int .i64 999999, .bool true, .map (N + 2), .fn (.func 181) [] []]
abbrev rPoints (N : Nat) : AV := .agg [.int .i64 0, .int .i64 99999, .bool true, .map (N + 3), .fn (.func 182) [] []]
abbrev kBlocks (N : Nat) : List Blk := [.map [(.str sTime, rTime N), (.str sLength, rLength N), (.str sPoints, rPoints N)],
  .map [(.str sExact, .int .i64 1), (.str sHund, .int .i64 100), (.str sTenths, .int .i64 1000)], .map [(.str sExact, .int .i64 1), (.str sCent, .int .i64 10)], .map [(.str sExact, .int .i64 1)]]
def specKinds : Spec := fun
  | [], h => some ⟨.map h.length, h ++ (kBlocks h.length).map some, []⟩
  | _, _ => none
theorem w113 {T : List (Nat × Spec)} (hft : F = FT) : Run (mk0 T inv F) 113 [] [] ⟨.map 0, (kBlocks 0).map some, []⟩ := by
  refine run_of_W (show F 113 = _ from by rw [hft]; exact ft113) (by simp) ?_
  unfold b113
  simp only [List.map_cons, List.map_nil, List.getElem?_nil, Option.getD_none]
  repeat' first | apply W.seq | apply SQn | apply W.region | apply WO.nil | apply W.block | apply W.ret | apply W.exit | apply W.skip | apply SQr | apply SQe | apply BQn | apply BQr | apply BQe | (apply BQo; exact rfl) | apply LQe | apply LQr | (apply W.condT; exact rfl) | (apply W.condF; exact rfl) | (apply W.cond; exact rfl; all_goals intro _) | (apply WO.hlv; exact rfl; exact rfl; exact rfl) | (apply WO.hpv; exact rfl; exact rfl; exact rfl) | (apply WO.hnv; exact rfl; exact rfl; exact rfl) | (apply WO.pl; exact rfl; exact rfl) | (apply WO.pp; exact rfl; exact rfl)
  exact ⟨.inr rfl, rfl, _, rfl, rfl, rfl⟩

def kLeast (k : List UInt8) : Int := if k = sTime then 1 else 0
def kMost (k : List UInt8) : Int := if k = sTime then 863999999 else if k = sLength then 999999 else 99999
def known (k : List UInt8) : Prop := k = sTime ∨ k = sLength ∨ k = sPoints
instance (k : List UInt8) : Decidable (known k) := by unfold known; infer_instance
/-- The first error of a mark. -/
def chk (k : List UInt8) (v : Int) (r : List UInt8) : Int :=
  if k = sNone then (if r ∉ reasons then 1 else if v ≠ 0 then 3 else 0) else if ¬ known k then 13 else if r ≠ [] then 1 else if v < kLeast k ∨ kMost k < v then 3 else 0

theorem kind_cases (k : List UInt8) : k = sNone ∨ k = sTime ∨ k = sLength ∨ k = sPoints ∨ (k ≠ sNone ∧ ¬ known k) := by
  unfold known
  by_cases h1 : k = sNone
  · exact .inl h1
  by_cases h2 : k = sTime
  · exact .inr (.inl h2)
  by_cases h3 : k = sLength
  · exact .inr (.inr (.inl h3))
  by_cases h4 : k = sPoints
  · exact .inr (.inr (.inr (.inl h4)))
  exact .inr (.inr (.inr (.inr ⟨h1, by simp [h2, h3, h4]⟩)))

def TChk : List (Nat × Spec) := [(113, specKinds), (112, specReason), (97, specWhen), (96, specFirst), (95, fun
  | [.int .i64 x, .int .i64 lo, .int .i64 hi], h => some ⟨.bool (decide (x < lo) || decide (hi < x)), h, []⟩
  | _, _ => none)]
set_option maxHeartbeats 4000000 in
theorem w36 (hft : F = FT) (k : List UInt8) (v : Int) (r : List UInt8) : Run (mk0 TChk inv F) 36 [mkM k v r] [] ⟨.int .i64 (chk k v r), [], []⟩ := by
  refine run_of_W (show F 36 = _ from by rw [hft]; exact ft36) (by simp) ?_
  unfold b36
  simp only [List.map_cons, List.map_nil, List.getElem?_cons_zero, List.getElem?_cons_succ, List.getElem?_nil, Option.getD_some, Option.getD_none]
  rcases kind_cases k with rfl | rfl | rfl | rfl | ⟨h1, h2⟩
  · repeat' first | apply W.seq | apply SQn | apply W.region | apply WO.nil | apply W.block | apply W.ret | apply W.exit | apply W.skip | apply SQr | apply SQe | apply BQn | apply BQr | apply BQe | (apply BQo; exact rfl) | apply LQe | apply LQr | (apply W.drawro; exact rfl) | apply W.draw | apply WD.nil | (apply WD.gT; exact rfl) | (apply WD.gF; exact rfl) | (apply WD.sT; exact rfl) | (apply WD.sF; exact rfl) | (apply WD.sU; exact rfl) | (apply WD.pure1; exact rfl) | (apply WD.load1; exact rfl; exact rfl; exact rfl) | (apply WD.store1; exact rfl; exact rfl; exact rfl) | (apply WD.new1; exact rfl) | (apply WD.look1; exact rfl; exact rfl) | (apply WD.clb; exact rfl; exact rfl; exact rfl; exact rfl; all_goals first | (intro h; exact absurd h (by decide)) | intro _) | (apply WD.cl0; exact rfl; exact rfl; exact rfl; exact rfl) | (apply WD.cl1; exact rfl; exact rfl; exact rfl; exact rfl) | (apply W.condT; exact rfl) | (apply W.condF; exact rfl) | (apply W.cond; exact rfl; all_goals intro _) | (apply WO.eql; exact rfl; exact rfl; all_goals first | (intro _; exfalso; omega) | intro _) | (apply WO.neq; exact rfl; exact rfl; all_goals first | (intro _; exfalso; omega) | intro _) | (apply WO.seql; exact rfl; exact rfl; all_goals first | (intro h; exact absurd h (by decide)) | (intro h; exact absurd rfl h) | (intro h; contradiction) | intro _) | (apply WO.sneq; exact rfl; exact rfl; all_goals first | (intro h; exact absurd h (by decide)) | (intro h; exact absurd rfl h) | (intro h; contradiction) | intro _) | (apply WO.clb; exact rfl; exact rfl; exact rfl; all_goals first | (intro h; exact absurd h (by decide)) | intro _) | (apply WO.cll; exact rfl; exact rfl; exact rfl) | (apply WO.hlv; exact rfl; exact rfl; exact rfl) | (apply WO.hpv; exact rfl; exact rfl; exact rfl) | (apply WO.hnv; exact rfl; exact rfl; exact rfl) | (apply WO.pl; exact rfl; exact rfl) | (apply WO.pp; exact rfl; exact rfl)
    all_goals refine ⟨.inr rfl, rfl, _, rfl, congrArg (AV.int .i64) ?_, rfl⟩
    all_goals (by_cases hr : r ∈ reasons <;> simp_all [firstNZ, chk])
  · repeat' first | apply W.seq | apply SQn | apply W.region | apply WO.nil | apply W.block | apply W.ret | apply W.exit | apply W.skip | apply SQr | apply SQe | apply BQn | apply BQr | apply BQe | (apply BQo; exact rfl) | apply LQe | apply LQr | (apply W.drawro; exact rfl) | apply W.draw | apply WD.nil | (apply WD.gT; exact rfl) | (apply WD.gF; exact rfl) | (apply WD.sT; exact rfl) | (apply WD.sF; exact rfl) | (apply WD.sU; exact rfl) | (apply WD.pure1; exact rfl) | (apply WD.load1; exact rfl; exact rfl; exact rfl) | (apply WD.store1; exact rfl; exact rfl; exact rfl) | (apply WD.new1; exact rfl) | (apply WD.look1; exact rfl; exact rfl) | (apply WD.clb; exact rfl; exact rfl; exact rfl; exact rfl; all_goals first | (intro h; exact absurd h (by decide)) | intro _) | (apply WD.cl0; exact rfl; exact rfl; exact rfl; exact rfl) | (apply WD.cl1; exact rfl; exact rfl; exact rfl; exact rfl) | (apply W.condT; exact rfl) | (apply W.condF; exact rfl) | (apply W.cond; exact rfl; all_goals intro _) | (apply WO.eql; exact rfl; exact rfl; all_goals first | (intro _; exfalso; omega) | intro _) | (apply WO.neq; exact rfl; exact rfl; all_goals first | (intro _; exfalso; omega) | intro _) | (apply WO.seql; exact rfl; exact rfl; all_goals first | (intro h; exact absurd h (by decide)) | (intro h; exact absurd rfl h) | (intro h; contradiction) | intro _) | (apply WO.sneq; exact rfl; exact rfl; all_goals first | (intro h; exact absurd h (by decide)) | (intro h; exact absurd rfl h) | (intro h; contradiction) | intro _) | (apply WO.clb; exact rfl; exact rfl; exact rfl; all_goals first | (intro h; exact absurd h (by decide)) | intro _) | (apply WO.cll; exact rfl; exact rfl; exact rfl) | (apply WO.hlv; exact rfl; exact rfl; exact rfl) | (apply WO.hpv; exact rfl; exact rfl; exact rfl) | (apply WO.hnv; exact rfl; exact rfl; exact rfl) | (apply WO.pl; exact rfl; exact rfl) | (apply WO.pp; exact rfl; exact rfl)
    all_goals refine ⟨.inr rfl, rfl, _, rfl, congrArg (AV.int .i64) ?_, rfl⟩
    all_goals (by_cases hv : v < 1 ∨ 863999999 < v <;> simp_all [firstNZ, chk, known, kLeast, kMost] <;> omega)
  · repeat' first | apply W.seq | apply SQn | apply W.region | apply WO.nil | apply W.block | apply W.ret | apply W.exit | apply W.skip | apply SQr | apply SQe | apply BQn | apply BQr | apply BQe | (apply BQo; exact rfl) | apply LQe | apply LQr | (apply W.drawro; exact rfl) | apply W.draw | apply WD.nil | (apply WD.gT; exact rfl) | (apply WD.gF; exact rfl) | (apply WD.sT; exact rfl) | (apply WD.sF; exact rfl) | (apply WD.sU; exact rfl) | (apply WD.pure1; exact rfl) | (apply WD.load1; exact rfl; exact rfl; exact rfl) | (apply WD.store1; exact rfl; exact rfl; exact rfl) | (apply WD.new1; exact rfl) | (apply WD.look1; exact rfl; exact rfl) | (apply WD.clb; exact rfl; exact rfl; exact rfl; exact rfl; all_goals first | (intro h; exact absurd h (by decide)) | intro _) | (apply WD.cl0; exact rfl; exact rfl; exact rfl; exact rfl) | (apply WD.cl1; exact rfl; exact rfl; exact rfl; exact rfl) | (apply W.condT; exact rfl) | (apply W.condF; exact rfl) | (apply W.cond; exact rfl; all_goals intro _) | (apply WO.eql; exact rfl; exact rfl; all_goals first | (intro _; exfalso; omega) | intro _) | (apply WO.neq; exact rfl; exact rfl; all_goals first | (intro _; exfalso; omega) | intro _) | (apply WO.seql; exact rfl; exact rfl; all_goals first | (intro h; exact absurd h (by decide)) | (intro h; exact absurd rfl h) | (intro h; contradiction) | intro _) | (apply WO.sneq; exact rfl; exact rfl; all_goals first | (intro h; exact absurd h (by decide)) | (intro h; exact absurd rfl h) | (intro h; contradiction) | intro _) | (apply WO.clb; exact rfl; exact rfl; exact rfl; all_goals first | (intro h; exact absurd h (by decide)) | intro _) | (apply WO.cll; exact rfl; exact rfl; exact rfl) | (apply WO.hlv; exact rfl; exact rfl; exact rfl) | (apply WO.hpv; exact rfl; exact rfl; exact rfl) | (apply WO.hnv; exact rfl; exact rfl; exact rfl) | (apply WO.pl; exact rfl; exact rfl) | (apply WO.pp; exact rfl; exact rfl)
    all_goals refine ⟨.inr rfl, rfl, _, rfl, congrArg (AV.int .i64) ?_, rfl⟩
    all_goals (by_cases hv : v < 0 ∨ 999999 < v <;> simp_all [firstNZ, chk, known, kLeast, kMost] <;> omega)
  · repeat' first | apply W.seq | apply SQn | apply W.region | apply WO.nil | apply W.block | apply W.ret | apply W.exit | apply W.skip | apply SQr | apply SQe | apply BQn | apply BQr | apply BQe | (apply BQo; exact rfl) | apply LQe | apply LQr | (apply W.drawro; exact rfl) | apply W.draw | apply WD.nil | (apply WD.gT; exact rfl) | (apply WD.gF; exact rfl) | (apply WD.sT; exact rfl) | (apply WD.sF; exact rfl) | (apply WD.sU; exact rfl) | (apply WD.pure1; exact rfl) | (apply WD.load1; exact rfl; exact rfl; exact rfl) | (apply WD.store1; exact rfl; exact rfl; exact rfl) | (apply WD.new1; exact rfl) | (apply WD.look1; exact rfl; exact rfl) | (apply WD.clb; exact rfl; exact rfl; exact rfl; exact rfl; all_goals first | (intro h; exact absurd h (by decide)) | intro _) | (apply WD.cl0; exact rfl; exact rfl; exact rfl; exact rfl) | (apply WD.cl1; exact rfl; exact rfl; exact rfl; exact rfl) | (apply W.condT; exact rfl) | (apply W.condF; exact rfl) | (apply W.cond; exact rfl; all_goals intro _) | (apply WO.eql; exact rfl; exact rfl; all_goals first | (intro _; exfalso; omega) | intro _) | (apply WO.neq; exact rfl; exact rfl; all_goals first | (intro _; exfalso; omega) | intro _) | (apply WO.seql; exact rfl; exact rfl; all_goals first | (intro h; exact absurd h (by decide)) | (intro h; exact absurd rfl h) | (intro h; contradiction) | intro _) | (apply WO.sneq; exact rfl; exact rfl; all_goals first | (intro h; exact absurd h (by decide)) | (intro h; exact absurd rfl h) | (intro h; contradiction) | intro _) | (apply WO.clb; exact rfl; exact rfl; exact rfl; all_goals first | (intro h; exact absurd h (by decide)) | intro _) | (apply WO.cll; exact rfl; exact rfl; exact rfl) | (apply WO.hlv; exact rfl; exact rfl; exact rfl) | (apply WO.hpv; exact rfl; exact rfl; exact rfl) | (apply WO.hnv; exact rfl; exact rfl; exact rfl) | (apply WO.pl; exact rfl; exact rfl) | (apply WO.pp; exact rfl; exact rfl)
    all_goals refine ⟨.inr rfl, rfl, _, rfl, congrArg (AV.int .i64) ?_, rfl⟩
    all_goals (by_cases hv : v < 0 ∨ 99999 < v <;> simp_all [firstNZ, chk, known, kLeast, kMost] <;> omega)
  · simp only [known, not_or] at h2
    have b1 : (k == sTime) = false := beq_eq_false_iff_ne.2 h2.1
    have b2 : (k == sLength) = false := beq_eq_false_iff_ne.2 h2.2.1
    have b3 : (k == sPoints) = false := beq_eq_false_iff_ne.2 h2.2.2
    repeat' first | apply W.seq | apply SQn | apply W.region | apply WO.nil | apply W.block | apply W.ret | apply W.exit | apply W.skip | apply SQr | apply SQe | apply BQn | apply BQr | apply BQe | (apply BQo; exact rfl) | apply LQe | apply LQr | (apply W.drawro; exact rfl) | apply W.draw | apply WD.nil | (apply WD.gT; exact rfl) | (apply WD.gF; exact rfl) | (apply WD.sT; exact rfl) | (apply WD.sF; exact rfl) | (apply WD.sU; exact rfl) | (apply WD.pure1; exact rfl) | (apply WD.load1; exact rfl; exact rfl; exact rfl) | (apply WD.store1; exact rfl; exact rfl; exact rfl) | (apply WD.new1; exact rfl) | (apply WD.look1; exact rfl; exact rfl) | (apply WD.clb; exact rfl; exact rfl; exact rfl; exact rfl; all_goals first | (intro h; exact absurd h (by decide)) | intro _) | (apply WD.cl0; exact rfl; exact rfl; exact rfl; exact rfl) | (apply WD.cl1; exact rfl; exact rfl; exact rfl; exact rfl) | (apply W.condT; exact rfl) | (apply W.condF; exact rfl) | (apply W.cond; exact rfl; all_goals intro _) | (apply WO.eql; exact rfl; exact rfl; all_goals first | (intro _; exfalso; omega) | intro _) | (apply WO.neq; exact rfl; exact rfl; all_goals first | (intro _; exfalso; omega) | intro _) | (apply WO.lkN; exact rfl; exact rfl; exact rfl; exact rfl; simp only [findA, keyEq, b1, b2, b3]) | (apply WO.seql; exact rfl; exact rfl; all_goals first | (intro h; exact absurd h (by decide)) | (intro h; exact absurd rfl h) | (intro h; contradiction) | intro _) | (apply WO.sneq; exact rfl; exact rfl; all_goals first | (intro h; exact absurd h (by decide)) | (intro h; exact absurd rfl h) | (intro h; contradiction) | intro _) | (apply WO.clb; exact rfl; exact rfl; exact rfl; all_goals first | (intro h; exact absurd h (by decide)) | intro _) | (apply WO.cll; exact rfl; exact rfl; exact rfl) | (apply WO.hlv; exact rfl; exact rfl; exact rfl) | (apply WO.hpv; exact rfl; exact rfl; exact rfl) | (apply WO.hnv; exact rfl; exact rfl; exact rfl) | (apply WO.pl; exact rfl; exact rfl) | (apply WO.pp; exact rfl; exact rfl)
    all_goals refine ⟨.inr rfl, rfl, _, rfl, congrArg (AV.int .i64) ?_, rfl⟩
    all_goals simp [firstNZ, chk, known, h1, h2]

def specChk : Spec := fun
  | [.agg [.str k, .int .i64 v, .str r]], h => some ⟨.int .i64 (chk k v r), h, []⟩
  | _, _ => none

theorem w110 {T : List (Nat × Spec)} (hft : F = FT) (k : List UInt8) : Run (mk0 T inv F) 110 [.str k] [] ⟨.int .i64 (kLeast k), [], []⟩ := by
  refine run_of_W (show F 110 = _ from by rw [hft]; exact ft110) (by simp) ?_
  unfold b110
  simp only [List.map_cons, List.map_nil, List.getElem?_cons_zero, List.getElem?_cons_succ, List.getElem?_nil, Option.getD_some, Option.getD_none]
  repeat' first | apply W.seq | apply SQn | apply W.region | apply WO.nil | apply W.block | apply W.ret | apply W.exit | apply W.skip | apply SQr | apply SQe | apply BQn | apply BQr | apply BQe | (apply BQo; exact rfl) | apply LQe | apply LQr | (apply W.condT; exact rfl) | (apply W.condF; exact rfl) | (apply W.cond; exact rfl; all_goals intro _) | (apply WO.eql; exact rfl; exact rfl; all_goals first | (intro _; exfalso; omega) | intro _) | (apply WO.seql; exact rfl; exact rfl; all_goals first | (intro h; exact absurd h (by decide)) | (intro h; exact absurd rfl h) | (intro h; contradiction) | intro _) | (apply WO.pl; exact rfl; exact rfl) | (apply WO.pp; exact rfl; exact rfl)
  all_goals exact ⟨.inr rfl, rfl, _, rfl, by simp [tupA, kLeast, *], rfl⟩
theorem w111 {T : List (Nat × Spec)} (hft : F = FT) (k : List UInt8) : Run (mk0 T inv F) 111 [.str k] [] ⟨.int .i64 (kMost k), [], []⟩ := by
  refine run_of_W (show F 111 = _ from by rw [hft]; exact ft111) (by simp) ?_
  unfold b111
  simp only [List.map_cons, List.map_nil, List.getElem?_cons_zero, List.getElem?_cons_succ, List.getElem?_nil, Option.getD_some, Option.getD_none]
  repeat' first | apply W.seq | apply SQn | apply W.region | apply WO.nil | apply W.block | apply W.ret | apply W.exit | apply W.skip | apply SQr | apply SQe | apply BQn | apply BQr | apply BQe | (apply BQo; exact rfl) | apply LQe | apply LQr | (apply W.condT; exact rfl) | (apply W.condF; exact rfl) | (apply W.cond; exact rfl; all_goals intro _) | (apply WO.eql; exact rfl; exact rfl; all_goals first | (intro _; exfalso; omega) | intro _) | (apply WO.seql; exact rfl; exact rfl; all_goals first | (intro h; exact absurd h (by decide)) | (intro h; exact absurd rfl h) | (intro h; contradiction) | intro _) | (apply WO.pl; exact rfl; exact rfl) | (apply WO.pp; exact rfl; exact rfl)
  all_goals exact ⟨.inr rfl, rfl, _, rfl, by simp [tupA, kMost, *], rfl⟩
def TRefChk : List (Nat × Spec) := [(109, specReason), (110, fun
  | [.str k], h => some ⟨.int .i64 (kLeast k), h, []⟩
  | _, _ => none), (111, fun
  | [.str k], h => some ⟨.int .i64 (kMost k), h, []⟩
  | _, _ => none)]
set_option maxHeartbeats 4000000 in
theorem w35 (hft : F = FT) (k : List UInt8) (v : Int) (r : List UInt8) : Run (mk0 TRefChk inv F) 35 [mkM k v r] [] ⟨.int .i64 (chk k v r), [], []⟩ := by
  refine run_of_W (show F 35 = _ from by rw [hft]; exact ft35) (by simp) ?_
  unfold b35
  simp only [List.map_cons, List.map_nil, List.getElem?_cons_zero, List.getElem?_cons_succ, List.getElem?_nil, Option.getD_some, Option.getD_none]
  rcases kind_cases k with rfl | rfl | rfl | rfl | ⟨h1, h2⟩
  · repeat' first | apply W.seq | apply SQn | apply W.region | apply WO.nil | apply W.block | apply W.ret | apply W.exit | apply W.skip | apply SQr | apply SQe | apply BQn | apply BQr | apply BQe | (apply BQo; exact rfl) | apply LQe | apply LQr | (apply W.drawro; exact rfl) | apply W.draw | apply WD.nil | (apply WD.gT; exact rfl) | (apply WD.gF; exact rfl) | (apply WD.sT; exact rfl) | (apply WD.sF; exact rfl) | (apply WD.sU; exact rfl) | (apply WD.pure1; exact rfl) | (apply WD.load1; exact rfl; exact rfl; exact rfl) | (apply WD.new1; exact rfl) | (apply WD.clb; exact rfl; exact rfl; exact rfl; exact rfl; all_goals first | (intro h; exact absurd h (by decide)) | intro _) | (apply WD.cl0; exact rfl; exact rfl; exact rfl; exact rfl) | (apply WD.cl1; exact rfl; exact rfl; exact rfl; exact rfl) | (apply W.condT; exact rfl) | (apply W.condF; exact rfl) | (apply W.cond; exact rfl; all_goals intro _) | (apply WO.gT; exact rfl) | (apply WO.gF; exact rfl) | (apply WO.sT; exact rfl) | (apply WO.sF; exact rfl) | (apply WO.sU; exact rfl) | (apply WO.lss; exact rfl; exact rfl; all_goals first | (intro _; exfalso; omega) | intro _) | (apply WO.gtr; exact rfl; exact rfl; all_goals first | (intro _; exfalso; omega) | intro _) | (apply WO.eql; exact rfl; exact rfl; all_goals first | (intro _; exfalso; omega) | intro _) | (apply WO.neq; exact rfl; exact rfl; all_goals first | (intro _; exfalso; omega) | intro _) | (apply WO.pkT; exact rfl; exact rfl) | (apply WO.pkF; exact rfl; exact rfl) | (apply WO.seql; exact rfl; exact rfl; all_goals first | (intro h; exact absurd h (by decide)) | (intro h; exact absurd rfl h) | (intro h; contradiction) | intro _) | (apply WO.sneq; exact rfl; exact rfl; all_goals first | (intro h; exact absurd h (by decide)) | (intro h; exact absurd rfl h) | (intro h; contradiction) | intro _) | (apply WO.clb; exact rfl; exact rfl; exact rfl; all_goals first | (intro h; exact absurd h (by decide)) | intro _) | (apply WO.cll; exact rfl; exact rfl; exact rfl) | (apply WO.hlv; exact rfl; exact rfl; exact rfl) | (apply WO.hpv; exact rfl; exact rfl; exact rfl) | (apply WO.hnv; exact rfl; exact rfl; exact rfl) | (apply WO.pl; exact rfl; exact rfl) | (apply WO.pp; exact rfl; exact rfl)
    all_goals refine ⟨.inr rfl, rfl, _, rfl, congrArg (AV.int .i64) ?_, rfl⟩
    all_goals simp_all [chk]
  · repeat' first | apply W.seq | apply SQn | apply W.region | apply WO.nil | apply W.block | apply W.ret | apply W.exit | apply W.skip | apply SQr | apply SQe | apply BQn | apply BQr | apply BQe | (apply BQo; exact rfl) | apply LQe | apply LQr | (apply W.drawro; exact rfl) | apply W.draw | apply WD.nil | (apply WD.gT; exact rfl) | (apply WD.gF; exact rfl) | (apply WD.sT; exact rfl) | (apply WD.sF; exact rfl) | (apply WD.sU; exact rfl) | (apply WD.pure1; exact rfl) | (apply WD.load1; exact rfl; exact rfl; exact rfl) | (apply WD.new1; exact rfl) | (apply WD.clb; exact rfl; exact rfl; exact rfl; exact rfl; all_goals first | (intro h; exact absurd h (by decide)) | intro _) | (apply WD.cl0; exact rfl; exact rfl; exact rfl; exact rfl) | (apply WD.cl1; exact rfl; exact rfl; exact rfl; exact rfl) | (apply W.condT; exact rfl) | (apply W.condF; exact rfl) | (apply W.cond; exact rfl; all_goals intro _) | (apply WO.gT; exact rfl) | (apply WO.gF; exact rfl) | (apply WO.sT; exact rfl) | (apply WO.sF; exact rfl) | (apply WO.sU; exact rfl) | (apply WO.lss; exact rfl; exact rfl; all_goals first | (intro _; exfalso; omega) | intro _) | (apply WO.gtr; exact rfl; exact rfl; all_goals first | (intro _; exfalso; omega) | intro _) | (apply WO.eql; exact rfl; exact rfl; all_goals first | (intro _; exfalso; omega) | intro _) | (apply WO.neq; exact rfl; exact rfl; all_goals first | (intro _; exfalso; omega) | intro _) | (apply WO.pkT; exact rfl; exact rfl) | (apply WO.pkF; exact rfl; exact rfl) | (apply WO.seql; exact rfl; exact rfl; all_goals first | (intro h; exact absurd h (by decide)) | (intro h; exact absurd rfl h) | (intro h; contradiction) | intro _) | (apply WO.sneq; exact rfl; exact rfl; all_goals first | (intro h; exact absurd h (by decide)) | (intro h; exact absurd rfl h) | (intro h; contradiction) | intro _) | (apply WO.clb; exact rfl; exact rfl; exact rfl; all_goals first | (intro h; exact absurd h (by decide)) | intro _) | (apply WO.cll; exact rfl; exact rfl; exact rfl) | (apply WO.hlv; exact rfl; exact rfl; exact rfl) | (apply WO.hpv; exact rfl; exact rfl; exact rfl) | (apply WO.hnv; exact rfl; exact rfl; exact rfl) | (apply WO.pl; exact rfl; exact rfl) | (apply WO.pp; exact rfl; exact rfl)
    all_goals refine ⟨.inr rfl, rfl, _, rfl, congrArg (AV.int .i64) ?_, rfl⟩
    all_goals simp_all [chk, known, kLeast, kMost]
    all_goals omega
  · repeat' first | apply W.seq | apply SQn | apply W.region | apply WO.nil | apply W.block | apply W.ret | apply W.exit | apply W.skip | apply SQr | apply SQe | apply BQn | apply BQr | apply BQe | (apply BQo; exact rfl) | apply LQe | apply LQr | (apply W.drawro; exact rfl) | apply W.draw | apply WD.nil | (apply WD.gT; exact rfl) | (apply WD.gF; exact rfl) | (apply WD.sT; exact rfl) | (apply WD.sF; exact rfl) | (apply WD.sU; exact rfl) | (apply WD.pure1; exact rfl) | (apply WD.load1; exact rfl; exact rfl; exact rfl) | (apply WD.new1; exact rfl) | (apply WD.clb; exact rfl; exact rfl; exact rfl; exact rfl; all_goals first | (intro h; exact absurd h (by decide)) | intro _) | (apply WD.cl0; exact rfl; exact rfl; exact rfl; exact rfl) | (apply WD.cl1; exact rfl; exact rfl; exact rfl; exact rfl) | (apply W.condT; exact rfl) | (apply W.condF; exact rfl) | (apply W.cond; exact rfl; all_goals intro _) | (apply WO.gT; exact rfl) | (apply WO.gF; exact rfl) | (apply WO.sT; exact rfl) | (apply WO.sF; exact rfl) | (apply WO.sU; exact rfl) | (apply WO.lss; exact rfl; exact rfl; all_goals first | (intro _; exfalso; omega) | intro _) | (apply WO.gtr; exact rfl; exact rfl; all_goals first | (intro _; exfalso; omega) | intro _) | (apply WO.eql; exact rfl; exact rfl; all_goals first | (intro _; exfalso; omega) | intro _) | (apply WO.neq; exact rfl; exact rfl; all_goals first | (intro _; exfalso; omega) | intro _) | (apply WO.pkT; exact rfl; exact rfl) | (apply WO.pkF; exact rfl; exact rfl) | (apply WO.seql; exact rfl; exact rfl; all_goals first | (intro h; exact absurd h (by decide)) | (intro h; exact absurd rfl h) | (intro h; contradiction) | intro _) | (apply WO.sneq; exact rfl; exact rfl; all_goals first | (intro h; exact absurd h (by decide)) | (intro h; exact absurd rfl h) | (intro h; contradiction) | intro _) | (apply WO.clb; exact rfl; exact rfl; exact rfl; all_goals first | (intro h; exact absurd h (by decide)) | intro _) | (apply WO.cll; exact rfl; exact rfl; exact rfl) | (apply WO.hlv; exact rfl; exact rfl; exact rfl) | (apply WO.hpv; exact rfl; exact rfl; exact rfl) | (apply WO.hnv; exact rfl; exact rfl; exact rfl) | (apply WO.pl; exact rfl; exact rfl) | (apply WO.pp; exact rfl; exact rfl)
    all_goals refine ⟨.inr rfl, rfl, _, rfl, congrArg (AV.int .i64) ?_, rfl⟩
    all_goals simp_all [chk, known, kLeast, kMost]
    all_goals omega
  · repeat' first | apply W.seq | apply SQn | apply W.region | apply WO.nil | apply W.block | apply W.ret | apply W.exit | apply W.skip | apply SQr | apply SQe | apply BQn | apply BQr | apply BQe | (apply BQo; exact rfl) | apply LQe | apply LQr | (apply W.drawro; exact rfl) | apply W.draw | apply WD.nil | (apply WD.gT; exact rfl) | (apply WD.gF; exact rfl) | (apply WD.sT; exact rfl) | (apply WD.sF; exact rfl) | (apply WD.sU; exact rfl) | (apply WD.pure1; exact rfl) | (apply WD.load1; exact rfl; exact rfl; exact rfl) | (apply WD.new1; exact rfl) | (apply WD.clb; exact rfl; exact rfl; exact rfl; exact rfl; all_goals first | (intro h; exact absurd h (by decide)) | intro _) | (apply WD.cl0; exact rfl; exact rfl; exact rfl; exact rfl) | (apply WD.cl1; exact rfl; exact rfl; exact rfl; exact rfl) | (apply W.condT; exact rfl) | (apply W.condF; exact rfl) | (apply W.cond; exact rfl; all_goals intro _) | (apply WO.gT; exact rfl) | (apply WO.gF; exact rfl) | (apply WO.sT; exact rfl) | (apply WO.sF; exact rfl) | (apply WO.sU; exact rfl) | (apply WO.lss; exact rfl; exact rfl; all_goals first | (intro _; exfalso; omega) | intro _) | (apply WO.gtr; exact rfl; exact rfl; all_goals first | (intro _; exfalso; omega) | intro _) | (apply WO.eql; exact rfl; exact rfl; all_goals first | (intro _; exfalso; omega) | intro _) | (apply WO.neq; exact rfl; exact rfl; all_goals first | (intro _; exfalso; omega) | intro _) | (apply WO.pkT; exact rfl; exact rfl) | (apply WO.pkF; exact rfl; exact rfl) | (apply WO.seql; exact rfl; exact rfl; all_goals first | (intro h; exact absurd h (by decide)) | (intro h; exact absurd rfl h) | (intro h; contradiction) | intro _) | (apply WO.sneq; exact rfl; exact rfl; all_goals first | (intro h; exact absurd h (by decide)) | (intro h; exact absurd rfl h) | (intro h; contradiction) | intro _) | (apply WO.clb; exact rfl; exact rfl; exact rfl; all_goals first | (intro h; exact absurd h (by decide)) | intro _) | (apply WO.cll; exact rfl; exact rfl; exact rfl) | (apply WO.hlv; exact rfl; exact rfl; exact rfl) | (apply WO.hpv; exact rfl; exact rfl; exact rfl) | (apply WO.hnv; exact rfl; exact rfl; exact rfl) | (apply WO.pl; exact rfl; exact rfl) | (apply WO.pp; exact rfl; exact rfl)
    all_goals refine ⟨.inr rfl, rfl, _, rfl, congrArg (AV.int .i64) ?_, rfl⟩
    all_goals simp_all [chk, known, kLeast, kMost]
    all_goals omega
  · simp only [known, not_or] at h2
    repeat' first | apply W.seq | apply SQn | apply W.region | apply WO.nil | apply W.block | apply W.ret | apply W.exit | apply W.skip | apply SQr | apply SQe | apply BQn | apply BQr | apply BQe | (apply BQo; exact rfl) | apply LQe | apply LQr | (apply W.drawro; exact rfl) | apply W.draw | apply WD.nil | (apply WD.gT; exact rfl) | (apply WD.gF; exact rfl) | (apply WD.sT; exact rfl) | (apply WD.sF; exact rfl) | (apply WD.sU; exact rfl) | (apply WD.pure1; exact rfl) | (apply WD.load1; exact rfl; exact rfl; exact rfl) | (apply WD.new1; exact rfl) | (apply WD.clb; exact rfl; exact rfl; exact rfl; exact rfl; all_goals first | (intro h; exact absurd h (by decide)) | intro _) | (apply WD.cl0; exact rfl; exact rfl; exact rfl; exact rfl) | (apply WD.cl1; exact rfl; exact rfl; exact rfl; exact rfl) | (apply W.condT; exact rfl) | (apply W.condF; exact rfl) | (apply W.cond; exact rfl; all_goals intro _) | (apply WO.gT; exact rfl) | (apply WO.gF; exact rfl) | (apply WO.sT; exact rfl) | (apply WO.sF; exact rfl) | (apply WO.sU; exact rfl) | (apply WO.lss; exact rfl; exact rfl; all_goals first | (intro _; exfalso; omega) | intro _) | (apply WO.gtr; exact rfl; exact rfl; all_goals first | (intro _; exfalso; omega) | intro _) | (apply WO.eql; exact rfl; exact rfl; all_goals first | (intro _; exfalso; omega) | intro _) | (apply WO.neq; exact rfl; exact rfl; all_goals first | (intro _; exfalso; omega) | intro _) | (apply WO.pkT; exact rfl; exact rfl) | (apply WO.pkF; exact rfl; exact rfl) | (apply WO.seql; exact rfl; exact rfl; all_goals first | (intro h; exact absurd h (by decide)) | (intro h; exact absurd rfl h) | (intro h; contradiction) | intro _) | (apply WO.sneq; exact rfl; exact rfl; all_goals first | (intro h; exact absurd h (by decide)) | (intro h; exact absurd rfl h) | (intro h; contradiction) | intro _) | (apply WO.clb; exact rfl; exact rfl; exact rfl; all_goals first | (intro h; exact absurd h (by decide)) | intro _) | (apply WO.cll; exact rfl; exact rfl; exact rfl) | (apply WO.hlv; exact rfl; exact rfl; exact rfl) | (apply WO.hpv; exact rfl; exact rfl; exact rfl) | (apply WO.hnv; exact rfl; exact rfl; exact rfl) | (apply WO.pl; exact rfl; exact rfl) | (apply WO.pp; exact rfl; exact rfl)
    all_goals refine ⟨.inr rfl, rfl, _, rfl, congrArg (AV.int .i64) ?_, rfl⟩
    all_goals simp_all [chk, known]

/-- What a mark is worth. -/
def worth (k : List UInt8) (v : Int) : Int := if k = sTime then IntKind.i64.wrap (0 - v) else if known k then v else -864000000
def specWorth : Spec := fun
  | [.agg [.str k, .int .i64 v, .str _]], h => some ⟨.int .i64 (worth k v), h, []⟩
  | _, _ => none
def TKinds : List (Nat × Spec) := [(113, specKinds)]
set_option maxHeartbeats 4000000 in
theorem w184 (hft : F = FT) (k : List UInt8) (v : Int) (r : List UInt8) : Run (mk0 TKinds inv F) 184 [mkM k v r] [] ⟨.int .i64 (worth k v), [], []⟩ := by
  refine run_of_W (show F 184 = _ from by rw [hft]; exact ft184) (by simp) ?_
  unfold b184
  simp only [List.map_cons, List.map_nil, List.getElem?_cons_zero, List.getElem?_cons_succ, List.getElem?_nil, Option.getD_some, Option.getD_none]
  rcases kind_cases k with rfl | rfl | rfl | rfl | ⟨h1, h2⟩
  · repeat' first | apply W.seq | apply SQn | apply W.region | apply WO.nil | apply W.block | apply W.ret | apply W.exit | apply W.skip | apply SQr | apply SQe | apply BQn | apply BQr | apply BQe | (apply BQo; exact rfl) | apply LQe | apply LQr | (apply W.drawro; exact rfl) | apply W.draw | apply WD.nil | (apply WD.gT; exact rfl) | (apply WD.gF; exact rfl) | (apply WD.sT; exact rfl) | (apply WD.sF; exact rfl) | (apply WD.sU; exact rfl) | (apply WD.pure1; exact rfl) | (apply WD.load1; exact rfl; exact rfl; exact rfl) | (apply WD.store1; exact rfl; exact rfl; exact rfl) | (apply WD.new1; exact rfl) | (apply WD.look1; exact rfl; exact rfl) | (apply WD.clb; exact rfl; exact rfl; exact rfl; exact rfl; all_goals first | (intro h; exact absurd h (by decide)) | intro _) | (apply WD.cl0; exact rfl; exact rfl; exact rfl; exact rfl) | (apply WD.cl1; exact rfl; exact rfl; exact rfl; exact rfl) | (apply W.condT; exact rfl) | (apply W.condF; exact rfl) | (apply W.cond; exact rfl; all_goals intro _) | (apply WO.lkN; exact rfl; exact rfl; exact rfl; exact rfl; exact rfl) | (apply WO.clb; exact rfl; exact rfl; exact rfl; all_goals first | (intro h; exact absurd h (by decide)) | intro _) | (apply WO.cll; exact rfl; exact rfl; exact rfl) | (apply WO.neg; exact rfl; omega) | (apply WO.hlv; exact rfl; exact rfl; exact rfl) | (apply WO.hpv; exact rfl; exact rfl; exact rfl) | (apply WO.hnv; exact rfl; exact rfl; exact rfl) | (apply WO.pl; exact rfl; exact rfl) | (apply WO.pp; exact rfl; exact rfl)
    exact ⟨.inr rfl, rfl, _, rfl, rfl, rfl⟩
  · repeat' first | apply W.seq | apply SQn | apply W.region | apply WO.nil | apply W.block | apply W.ret | apply W.exit | apply W.skip | apply SQr | apply SQe | apply BQn | apply BQr | apply BQe | (apply BQo; exact rfl) | apply LQe | apply LQr | (apply W.drawro; exact rfl) | apply W.draw | apply WD.nil | (apply WD.gT; exact rfl) | (apply WD.gF; exact rfl) | (apply WD.sT; exact rfl) | (apply WD.sF; exact rfl) | (apply WD.sU; exact rfl) | (apply WD.pure1; exact rfl) | (apply WD.load1; exact rfl; exact rfl; exact rfl) | (apply WD.store1; exact rfl; exact rfl; exact rfl) | (apply WD.new1; exact rfl) | (apply WD.look1; exact rfl; exact rfl) | (apply WD.clb; exact rfl; exact rfl; exact rfl; exact rfl; all_goals first | (intro h; exact absurd h (by decide)) | intro _) | (apply WD.cl0; exact rfl; exact rfl; exact rfl; exact rfl) | (apply WD.cl1; exact rfl; exact rfl; exact rfl; exact rfl) | (apply W.condT; exact rfl) | (apply W.condF; exact rfl) | (apply W.cond; exact rfl; all_goals intro _) | (apply WO.clb; exact rfl; exact rfl; exact rfl; all_goals first | (intro h; exact absurd h (by decide)) | intro _) | (apply WO.cll; exact rfl; exact rfl; exact rfl) | (apply WO.neg; exact rfl; omega) | (apply WO.hlv; exact rfl; exact rfl; exact rfl) | (apply WO.hpv; exact rfl; exact rfl; exact rfl) | (apply WO.hnv; exact rfl; exact rfl; exact rfl) | (apply WO.pl; exact rfl; exact rfl) | (apply WO.pp; exact rfl; exact rfl)
    exact ⟨.inr rfl, rfl, _, rfl, rfl, rfl⟩
  · repeat' first | apply W.seq | apply SQn | apply W.region | apply WO.nil | apply W.block | apply W.ret | apply W.exit | apply W.skip | apply SQr | apply SQe | apply BQn | apply BQr | apply BQe | (apply BQo; exact rfl) | apply LQe | apply LQr | (apply W.drawro; exact rfl) | apply W.draw | apply WD.nil | (apply WD.gT; exact rfl) | (apply WD.gF; exact rfl) | (apply WD.sT; exact rfl) | (apply WD.sF; exact rfl) | (apply WD.sU; exact rfl) | (apply WD.pure1; exact rfl) | (apply WD.load1; exact rfl; exact rfl; exact rfl) | (apply WD.store1; exact rfl; exact rfl; exact rfl) | (apply WD.new1; exact rfl) | (apply WD.look1; exact rfl; exact rfl) | (apply WD.clb; exact rfl; exact rfl; exact rfl; exact rfl; all_goals first | (intro h; exact absurd h (by decide)) | intro _) | (apply WD.cl0; exact rfl; exact rfl; exact rfl; exact rfl) | (apply WD.cl1; exact rfl; exact rfl; exact rfl; exact rfl) | (apply W.condT; exact rfl) | (apply W.condF; exact rfl) | (apply W.cond; exact rfl; all_goals intro _) | (apply WO.clb; exact rfl; exact rfl; exact rfl; all_goals first | (intro h; exact absurd h (by decide)) | intro _) | (apply WO.cll; exact rfl; exact rfl; exact rfl) | (apply WO.neg; exact rfl; omega) | (apply WO.hlv; exact rfl; exact rfl; exact rfl) | (apply WO.hpv; exact rfl; exact rfl; exact rfl) | (apply WO.hnv; exact rfl; exact rfl; exact rfl) | (apply WO.pl; exact rfl; exact rfl) | (apply WO.pp; exact rfl; exact rfl)
    exact ⟨.inr rfl, rfl, _, rfl, rfl, rfl⟩
  · repeat' first | apply W.seq | apply SQn | apply W.region | apply WO.nil | apply W.block | apply W.ret | apply W.exit | apply W.skip | apply SQr | apply SQe | apply BQn | apply BQr | apply BQe | (apply BQo; exact rfl) | apply LQe | apply LQr | (apply W.drawro; exact rfl) | apply W.draw | apply WD.nil | (apply WD.gT; exact rfl) | (apply WD.gF; exact rfl) | (apply WD.sT; exact rfl) | (apply WD.sF; exact rfl) | (apply WD.sU; exact rfl) | (apply WD.pure1; exact rfl) | (apply WD.load1; exact rfl; exact rfl; exact rfl) | (apply WD.store1; exact rfl; exact rfl; exact rfl) | (apply WD.new1; exact rfl) | (apply WD.look1; exact rfl; exact rfl) | (apply WD.clb; exact rfl; exact rfl; exact rfl; exact rfl; all_goals first | (intro h; exact absurd h (by decide)) | intro _) | (apply WD.cl0; exact rfl; exact rfl; exact rfl; exact rfl) | (apply WD.cl1; exact rfl; exact rfl; exact rfl; exact rfl) | (apply W.condT; exact rfl) | (apply W.condF; exact rfl) | (apply W.cond; exact rfl; all_goals intro _) | (apply WO.clb; exact rfl; exact rfl; exact rfl; all_goals first | (intro h; exact absurd h (by decide)) | intro _) | (apply WO.cll; exact rfl; exact rfl; exact rfl) | (apply WO.neg; exact rfl; omega) | (apply WO.hlv; exact rfl; exact rfl; exact rfl) | (apply WO.hpv; exact rfl; exact rfl; exact rfl) | (apply WO.hnv; exact rfl; exact rfl; exact rfl) | (apply WO.pl; exact rfl; exact rfl) | (apply WO.pp; exact rfl; exact rfl)
    exact ⟨.inr rfl, rfl, _, rfl, rfl, rfl⟩
  · simp only [known, not_or] at h2
    have b1 : (k == sTime) = false := beq_eq_false_iff_ne.2 h2.1
    have b2 : (k == sLength) = false := beq_eq_false_iff_ne.2 h2.2.1
    have b3 : (k == sPoints) = false := beq_eq_false_iff_ne.2 h2.2.2
    repeat' first | apply W.seq | apply SQn | apply W.region | apply WO.nil | apply W.block | apply W.ret | apply W.exit | apply W.skip | apply SQr | apply SQe | apply BQn | apply BQr | apply BQe | (apply BQo; exact rfl) | apply LQe | apply LQr | (apply W.drawro; exact rfl) | apply W.draw | apply WD.nil | (apply WD.gT; exact rfl) | (apply WD.gF; exact rfl) | (apply WD.sT; exact rfl) | (apply WD.sF; exact rfl) | (apply WD.sU; exact rfl) | (apply WD.pure1; exact rfl) | (apply WD.load1; exact rfl; exact rfl; exact rfl) | (apply WD.store1; exact rfl; exact rfl; exact rfl) | (apply WD.new1; exact rfl) | (apply WD.look1; exact rfl; exact rfl) | (apply WD.clb; exact rfl; exact rfl; exact rfl; exact rfl; all_goals first | (intro h; exact absurd h (by decide)) | intro _) | (apply WD.cl0; exact rfl; exact rfl; exact rfl; exact rfl) | (apply WD.cl1; exact rfl; exact rfl; exact rfl; exact rfl) | (apply W.condT; exact rfl) | (apply W.condF; exact rfl) | (apply W.cond; exact rfl; all_goals intro _) | (apply WO.lkN; exact rfl; exact rfl; exact rfl; exact rfl; simp only [findA, keyEq, b1, b2, b3]) | (apply WO.clb; exact rfl; exact rfl; exact rfl; all_goals first | (intro h; exact absurd h (by decide)) | intro _) | (apply WO.cll; exact rfl; exact rfl; exact rfl) | (apply WO.neg; exact rfl; omega) | (apply WO.hlv; exact rfl; exact rfl; exact rfl) | (apply WO.hpv; exact rfl; exact rfl; exact rfl) | (apply WO.hnv; exact rfl; exact rfl; exact rfl) | (apply WO.pl; exact rfl; exact rfl) | (apply WO.pp; exact rfl; exact rfl)
    exact ⟨.inr rfl, rfl, _, rfl, congrArg (AV.int .i64) (by simp [worth, known, h2]), rfl⟩

/-- -1 as the first number is greater. -/
def cmpW (x y : Int) : Int := if y < x then -1 else if x < y then 1 else 0
def specCmp : Spec := fun
  | [.agg [.str k, .int .i64 v, .str _], .agg [.str k', .int .i64 v', .str _]], h => some ⟨.int .i64 (cmpW (worth k v) (worth k' v')), h, []⟩
  | _, _ => none
def TCmp : List (Nat × Spec) := [(184, specWorth)]
theorem w115 (hft : F = FT) (k : List UInt8) (v : Int) (r : List UInt8) (k' : List UInt8) (v' : Int) (r' : List UInt8) : Run (mk0 TCmp inv F) 115 [mkM k v r, mkM k' v' r'] [] ⟨.int .i64 (cmpW (worth k v) (worth k' v')), [], []⟩ := by
  refine run_of_W (show F 115 = _ from by rw [hft]; exact ft115) (by simp) ?_
  unfold b115
  simp only [List.map_cons, List.map_nil, List.getElem?_cons_zero, List.getElem?_cons_succ, List.getElem?_nil, Option.getD_some, Option.getD_none]
  repeat' first | apply W.seq | apply SQn | apply W.region | apply WO.nil | apply W.block | apply W.ret | apply W.exit | apply W.skip | apply SQr | apply SQe | apply BQn | apply BQr | apply BQe | (apply BQo; exact rfl) | apply LQe | apply LQr | (apply W.drawro; exact rfl) | apply W.draw | apply WD.nil | (apply WD.gT; exact rfl) | (apply WD.gF; exact rfl) | (apply WD.sT; exact rfl) | (apply WD.sF; exact rfl) | (apply WD.sU; exact rfl) | (apply WD.pure1; exact rfl) | (apply WD.load1; exact rfl; exact rfl; exact rfl) | (apply WD.new1; exact rfl) | (apply WD.clb; exact rfl; exact rfl; exact rfl; exact rfl; all_goals first | (intro h; exact absurd h (by decide)) | intro _) | (apply WD.cl0; exact rfl; exact rfl; exact rfl; exact rfl) | (apply WD.cl1; exact rfl; exact rfl; exact rfl; exact rfl) | (apply W.condT; exact rfl) | (apply W.condF; exact rfl) | (apply W.cond; exact rfl; all_goals intro _) | (apply WO.lss; exact rfl; exact rfl; all_goals first | (intro _; exfalso; omega) | intro _) | (apply WO.gtr; exact rfl; exact rfl; all_goals first | (intro _; exfalso; omega) | intro _) | (apply WO.clb; exact rfl; exact rfl; exact rfl; all_goals first | (intro h; exact absurd h (by decide)) | intro _) | (apply WO.cll; exact rfl; exact rfl; exact rfl) | (apply WO.hlv; exact rfl; exact rfl; exact rfl) | (apply WO.hpv; exact rfl; exact rfl; exact rfl) | (apply WO.hnv; exact rfl; exact rfl; exact rfl) | (apply WO.pl; exact rfl; exact rfl) | (apply WO.pp; exact rfl; exact rfl)
  all_goals refine ⟨.inr rfl, rfl, _, rfl, congrArg (AV.int .i64) ?_, rfl⟩
  all_goals unfold cmpW
  · rw [if_pos (by assumption)]
  · rw [if_neg (by omega), if_pos (by assumption)]
  · rw [if_neg (by omega), if_neg (by omega)]

def differ (k k' : List UInt8) : Bool := decide (k ≠ k' ∧ k ≠ sNone ∧ k' ≠ sNone)
def specDiffer : Spec := fun
  | [.agg [.str k, .int .i64 _, .str _], .agg [.str k', .int .i64 _, .str _]], h => some ⟨.bool (differ k k'), h, []⟩
  | _, _ => none
theorem w114 {T : List (Nat × Spec)} (hft : F = FT) (k : List UInt8) (v : Int) (r : List UInt8) (k' : List UInt8) (v' : Int) (r' : List UInt8) : Run (mk0 T inv F) 114 [mkM k v r, mkM k' v' r'] [] ⟨.bool (differ k k'), [], []⟩ := by
  refine run_of_W (show F 114 = _ from by rw [hft]; exact ft114) (by simp) ?_
  unfold b114
  simp only [List.map_cons, List.map_nil, List.getElem?_cons_zero, List.getElem?_cons_succ, List.getElem?_nil, Option.getD_some, Option.getD_none]
  repeat' first | apply W.seq | apply SQn | apply W.region | apply WO.nil | apply W.block | apply W.ret | apply W.exit | apply W.skip | apply SQr | apply SQe | apply BQn | apply BQr | apply BQe | (apply BQo; exact rfl) | apply LQe | apply LQr | (apply W.condT; exact rfl) | (apply W.condF; exact rfl) | (apply W.cond; exact rfl; all_goals intro _) | (apply WO.gT; exact rfl) | (apply WO.gF; exact rfl) | (apply WO.sT; exact rfl) | (apply WO.sF; exact rfl) | (apply WO.sU; exact rfl) | (apply WO.neq; exact rfl; exact rfl; all_goals first | (intro _; exfalso; omega) | intro _) | (apply WO.pkT; exact rfl; exact rfl) | (apply WO.pkF; exact rfl; exact rfl) | (apply WO.sneq; exact rfl; exact rfl; all_goals first | (intro h; exact absurd h (by decide)) | (intro h; exact absurd rfl h) | (intro h; contradiction) | intro _) | (apply WO.hlv; exact rfl; exact rfl; exact rfl) | (apply WO.hpv; exact rfl; exact rfl; exact rfl) | (apply WO.hnv; exact rfl; exact rfl; exact rfl) | (apply WO.pl; exact rfl; exact rfl) | (apply WO.pp; exact rfl; exact rfl)
  all_goals exact ⟨.inr rfl, rfl, _, rfl, congrArg AV.bool (by simp_all [differ]), rfl⟩

/-- The error of a comparison. -/
def cmpE (k : List UInt8) (v : Int) (r : List UInt8) (k' : List UInt8) (v' : Int) (r' : List UInt8) : Int := firstNZ [chk k v r, chk k' v' r', if differ k k' then 13 else 0]
def specCompare : Spec := fun
  | [.agg [.str k, .int .i64 v, .str r], .agg [.str k', .int .i64 v', .str r']], h =>
    some ⟨.tup [.int .i64 (if cmpE k v r k' v' r' ≠ 0 then 0 else cmpW (worth k v) (worth k' v')), .int .i64 (cmpE k v r k' v' r')], h, []⟩
  | _, _ => none
def TCompare : List (Nat × Spec) := [(36, specChk), (114, specDiffer), (97, specWhen), (96, specFirst), (115, specCmp)]
set_option maxHeartbeats 4000000 in
theorem w37 (hft : F = FT) (k : List UInt8) (v : Int) (r : List UInt8) (k' : List UInt8) (v' : Int) (r' : List UInt8) : Run (mk0 TCompare inv F) 37 [mkM k v r, mkM k' v' r'] [] ⟨.tup [.int .i64 (if cmpE k v r k' v' r' ≠ 0 then 0 else cmpW (worth k v) (worth k' v')), .int .i64 (cmpE k v r k' v' r')], [], []⟩ := by
  refine run_of_W (show F 37 = _ from by rw [hft]; exact ft37) (by simp) ?_
  unfold b37
  simp only [List.map_cons, List.map_nil, List.getElem?_cons_zero, List.getElem?_cons_succ, List.getElem?_nil, Option.getD_some, Option.getD_none]
  repeat' first | apply W.seq | apply SQn | apply W.region | apply WO.nil | apply W.block | apply W.ret | apply W.exit | apply W.skip | apply SQr | apply SQe | apply BQn | apply BQr | apply BQe | (apply BQo; exact rfl) | apply LQe | apply LQr | (apply W.drawro; exact rfl) | apply W.draw | apply WD.nil | (apply WD.gT; exact rfl) | (apply WD.gF; exact rfl) | (apply WD.sT; exact rfl) | (apply WD.sF; exact rfl) | (apply WD.sU; exact rfl) | (apply WD.pure1; exact rfl) | (apply WD.load1; exact rfl; exact rfl; exact rfl) | (apply WD.new1; exact rfl) | (apply WD.clb; exact rfl; exact rfl; exact rfl; exact rfl; all_goals first | (intro h; exact absurd h (by decide)) | intro _) | (apply WD.cl0; exact rfl; exact rfl; exact rfl; exact rfl) | (apply WD.cl1; exact rfl; exact rfl; exact rfl; exact rfl) | (apply W.condT; exact rfl) | (apply W.condF; exact rfl) | (apply W.cond; exact rfl; all_goals intro _) | (apply WO.neq; exact rfl; exact rfl; all_goals first | (intro _; exfalso; omega) | intro _) | (apply WO.sneq; exact rfl; exact rfl; all_goals first | (intro h; exact absurd h (by decide)) | (intro h; exact absurd rfl h) | (intro h; contradiction) | intro _) | (apply WO.clb; exact rfl; exact rfl; exact rfl; all_goals first | (intro h; exact absurd h (by decide)) | intro _) | (apply WO.cll; exact rfl; exact rfl; exact rfl) | (apply WO.hlv; exact rfl; exact rfl; exact rfl) | (apply WO.hpv; exact rfl; exact rfl; exact rfl) | (apply WO.hnv; exact rfl; exact rfl; exact rfl) | (apply WO.pl; exact rfl; exact rfl) | (apply WO.pp; exact rfl; exact rfl)
  all_goals refine ⟨.inr rfl, rfl, _, rfl, ?_, rfl⟩
  all_goals (rename_i h1 h2; simp only [tupA, cmpE, h1] at h2 ⊢)
  all_goals first | rw [if_pos h2] | rw [if_neg (by omega), h2]
end Go.Ab.Ch1


/-
  Own work: marks of chapter 1: rounding, winds, the law's own helpers.
-/
namespace Go.Ab.Ch1
variable {inv : InvF} {F : FuncId → Option IFunc}

/-- The step of a class for a kind; 0: none. -/
def stepOf (k c : List UInt8) : Int :=
  if k = sTime then (if c = sExact then 1 else if c = sHund then 100 else if c = sTenths then 1000 else 0)
  else if k = sLength then (if c = sExact then 1 else if c = sCent then 10 else 0)
  else if k = sPoints then (if c = sExact then 1 else 0) else 0
/-- Rounded to a multiple: upwards for times, downwards else. -/
def roundV (k : List UInt8) (s v : Int) : Int := if k = sTime then v + (s - 1) - (v + (s - 1)) % s else v - v % s
def isClass (c : List UInt8) : Prop := c ∈ [sExact, sHund, sTenths, sCent]
instance (c : List UInt8) : Decidable (isClass c) := by unfold isClass; infer_instance
def roundE (k : List UInt8) (v : Int) (r c : List UInt8) : Int :=
  if chk k v r ≠ 0 then chk k v r else if k = sNone then (if isClass c then 0 else 13) else if stepOf k c = 0 then 13 else if kMost k < roundV k (stepOf k c) v then 4 else 0
def roundK (k : List UInt8) (v : Int) (r c : List UInt8) : List UInt8 := if roundE k v r c ≠ 0 then [] else k
def roundR (k : List UInt8) (v : Int) (r c : List UInt8) : List UInt8 := if roundE k v r c ≠ 0 then [] else r
def roundN (k : List UInt8) (v : Int) (r c : List UInt8) : Int := if roundE k v r c ≠ 0 then 0 else if k = sNone then v else roundV k (stepOf k c) v
abbrev roundT (k : List UInt8) (v : Int) (r c : List UInt8) : AV := .tup [mkM (roundK k v r c) (roundN k v r c) (roundR k v r c), .int .i64 (roundE k v r c)]

theorem class_cases (c : List UInt8) : c = sExact ∨ c = sHund ∨ c = sTenths ∨ c = sCent ∨ (c ≠ sExact ∧ c ≠ sHund ∧ c ≠ sTenths ∧ c ≠ sCent) := by
  by_cases h1 : c = sExact
  · exact .inl h1
  by_cases h2 : c = sHund
  · exact .inr (.inl h2)
  by_cases h3 : c = sTenths
  · exact .inr (.inr (.inl h3))
  by_cases h4 : c = sCent
  · exact .inr (.inr (.inr (.inl h4)))
  exact .inr (.inr (.inr (.inr ⟨h1, h2, h3, h4⟩)))

theorem chk_zero {k : List UInt8} {v : Int} {r : List UInt8} (h : chk k v r = 0) : (k = sNone ∧ r ∈ reasons ∧ v = 0) ∨ (k ≠ sNone ∧ known k ∧ r = [] ∧ kLeast k ≤ v ∧ v ≤ kMost k) := by
  unfold chk at h
  split at h
  · rename_i h1
    split at h
    · cases h
    · rename_i h2
      split at h
      · cases h
      · rename_i h3
        exact .inl ⟨h1, Classical.not_not.1 h2, Classical.not_not.1 h3⟩
  · rename_i h1
    split at h
    · cases h
    · rename_i h2
      split at h
      · cases h
      · rename_i h3
        split at h
        · cases h
        · rename_i h4
          exact .inr ⟨h1, Classical.not_not.1 h2, Classical.not_not.1 h3, by omega, by omega⟩

def TRound : List (Nat × Spec) := [(36, specChk), (116, specContains), (113, specKinds)]
set_option maxHeartbeats 8000000 in
theorem w40 (hft : F = FT) (k : List UInt8) (v : Int) (r c : List UInt8) : Run (mk0 TRound inv F) 40 [mkM k v r, .str c] [] ⟨roundT k v r c, [], []⟩ := by
  refine run_of_W (show F 40 = _ from by rw [hft]; exact ft40) (by simp) ?_
  unfold b40
  simp only [List.map_cons, List.map_nil, List.getElem?_cons_zero, List.getElem?_cons_succ, List.getElem?_nil, Option.getD_some, Option.getD_none]
  by_cases he : chk k v r = 0
  · rcases chk_zero he with ⟨rfl, hr, rfl⟩ | ⟨hk, hk2, rfl, hl, hm⟩
    · repeat' first | apply W.seq | apply SQn | apply W.region | apply WO.nil | apply W.block | apply W.ret | apply W.exit | apply W.skip | apply SQr | apply SQe | apply BQn | apply BQr | apply BQe | (apply BQo; exact rfl) | apply LQe | apply LQr | (apply W.drawro; exact rfl) | apply W.draw | apply WD.nil | (apply WD.gT; exact rfl) | (apply WD.gF; exact rfl) | (apply WD.sT; exact rfl) | (apply WD.sF; exact rfl) | (apply WD.sU; exact rfl) | (apply WD.pure1; exact rfl) | (apply WD.load1; exact rfl; exact rfl; exact rfl) | (apply WD.store1; exact rfl; exact rfl; exact rfl) | (apply WD.new1; exact rfl) | (apply WD.look1; exact rfl; exact rfl) | (apply WD.clb; exact rfl; exact rfl; exact rfl; exact rfl; all_goals first | (intro h; exact absurd h (by decide)) | intro _) | (apply WD.cl0; exact rfl; exact rfl; exact rfl; exact rfl) | (apply WD.cl1; exact rfl; exact rfl; exact rfl; exact rfl) | (apply W.condT; exact rfl) | (apply W.condF; exact rfl) | (apply W.cond; exact rfl; all_goals intro _) | (apply WO.gtr; exact rfl; exact rfl; all_goals first | (intro _; exfalso; omega) | intro _) | (apply WO.eql; exact rfl; exact rfl; all_goals first | (intro _; exfalso; omega) | intro _) | (apply WO.neq; exact rfl; exact rfl; all_goals first | (intro _; exfalso; omega) | intro _) | (apply WO.add; exact rfl; exact rfl; omega) | (apply WO.sub; exact rfl; exact rfl; omega) | (apply WO.remp; exact rfl; exact rfl; omega; intro _ _) | (apply WO.remn; exact rfl; exact rfl; omega; intro _ _) | (apply WO.rem; exact rfl; exact rfl; omega) | (apply WO.seql; exact rfl; exact rfl; all_goals first | (intro h; exact absurd h (by decide)) | (intro h; exact absurd rfl h) | (intro h; contradiction) | intro _) | (apply WO.sneq; exact rfl; exact rfl; all_goals first | (intro h; exact absurd h (by decide)) | (intro h; exact absurd rfl h) | (intro h; contradiction) | intro _) | (apply WO.clb; exact rfl; exact rfl; exact rfl; all_goals first | (intro h; exact absurd h (by decide)) | intro _) | (apply WO.cll; exact rfl; exact rfl; exact rfl) | (apply WO.hlv; exact rfl; exact rfl; exact rfl) | (apply WO.hpv; exact rfl; exact rfl; exact rfl) | (apply WO.hnv; exact rfl; exact rfl; exact rfl) | (apply WO.pl; exact rfl; exact rfl) | (apply WO.pp; exact rfl; exact rfl)
      all_goals refine ⟨.inr rfl, rfl, _, rfl, ?_, rfl⟩
      · rename_i h
        have h' : isClass c := of_decide_eq_true h
        simp [tupA, roundK, roundR, roundN, roundE, he, h', overwrite]
      · rename_i h
        have h' : ¬ isClass c := of_decide_eq_false h
        simp [tupA, roundK, roundR, roundN, roundE, he, h', overwrite]
    · rcases hk2 with rfl | rfl | rfl
      all_goals simp only [kLeast, kMost] at hl hm
      all_goals simp (decide := true) at hl hm
      all_goals rcases class_cases c with rfl | rfl | rfl | rfl | ⟨c1, c2, c3, c4⟩
      · repeat' first | apply W.seq | apply SQn | apply W.region | apply WO.nil | apply W.block | apply W.ret | apply W.exit | apply W.skip | apply SQr | apply SQe | apply BQn | apply BQr | apply BQe | (apply BQo; exact rfl) | apply LQe | apply LQr | (apply W.drawro; exact rfl) | apply W.draw | apply WD.nil | (apply WD.gT; exact rfl) | (apply WD.gF; exact rfl) | (apply WD.sT; exact rfl) | (apply WD.sF; exact rfl) | (apply WD.sU; exact rfl) | (apply WD.pure1; exact rfl) | (apply WD.load1; exact rfl; exact rfl; exact rfl) | (apply WD.store1; exact rfl; exact rfl; exact rfl) | (apply WD.new1; exact rfl) | (apply WD.look1; exact rfl; exact rfl) | (apply WD.clb; exact rfl; exact rfl; exact rfl; exact rfl; all_goals first | (intro h; exact absurd h (by decide)) | intro _) | (apply WD.cl0; exact rfl; exact rfl; exact rfl; exact rfl) | (apply WD.cl1; exact rfl; exact rfl; exact rfl; exact rfl) | (apply W.condT; exact rfl) | (apply W.condF; exact rfl) | (apply W.cond; exact rfl; all_goals intro _) | (apply WO.gtr; exact rfl; exact rfl; all_goals first | (intro _; exfalso; omega) | intro _) | (apply WO.eql; exact rfl; exact rfl; all_goals first | (intro _; exfalso; omega) | intro _) | (apply WO.neq; exact rfl; exact rfl; all_goals first | (intro _; exfalso; omega) | intro _) | (apply WO.add; exact rfl; exact rfl; omega) | (apply WO.sub; exact rfl; exact rfl; omega) | (apply WO.remp; exact rfl; exact rfl; omega; intro _ _) | (apply WO.remn; exact rfl; exact rfl; omega; intro _ _) | (apply WO.rem; exact rfl; exact rfl; omega) | (apply WO.lkN; exact rfl; exact rfl; exact rfl; exact rfl; exact rfl) | (apply WO.seql; exact rfl; exact rfl; all_goals first | (intro h; exact absurd h (by decide)) | (intro h; exact absurd rfl h) | (intro h; contradiction) | intro _) | (apply WO.sneq; exact rfl; exact rfl; all_goals first | (intro h; exact absurd h (by decide)) | (intro h; exact absurd rfl h) | (intro h; contradiction) | intro _) | (apply WO.clb; exact rfl; exact rfl; exact rfl; all_goals first | (intro h; exact absurd h (by decide)) | intro _) | (apply WO.cll; exact rfl; exact rfl; exact rfl) | (apply WO.hlv; exact rfl; exact rfl; exact rfl) | (apply WO.hpv; exact rfl; exact rfl; exact rfl) | (apply WO.hnv; exact rfl; exact rfl; exact rfl) | (apply WO.pl; exact rfl; exact rfl) | (apply WO.pp; exact rfl; exact rfl)
        all_goals refine ⟨.inr rfl, rfl, _, rfl, ?_, rfl⟩
        all_goals simp_all [tupA, roundK, roundR, roundN, roundE, stepOf, roundV, kMost, overwrite]
      · repeat' first | apply W.seq | apply SQn | apply W.region | apply WO.nil | apply W.block | apply W.ret | apply W.exit | apply W.skip | apply SQr | apply SQe | apply BQn | apply BQr | apply BQe | (apply BQo; exact rfl) | apply LQe | apply LQr | (apply W.drawro; exact rfl) | apply W.draw | apply WD.nil | (apply WD.gT; exact rfl) | (apply WD.gF; exact rfl) | (apply WD.sT; exact rfl) | (apply WD.sF; exact rfl) | (apply WD.sU; exact rfl) | (apply WD.pure1; exact rfl) | (apply WD.load1; exact rfl; exact rfl; exact rfl) | (apply WD.store1; exact rfl; exact rfl; exact rfl) | (apply WD.new1; exact rfl) | (apply WD.look1; exact rfl; exact rfl) | (apply WD.clb; exact rfl; exact rfl; exact rfl; exact rfl; all_goals first | (intro h; exact absurd h (by decide)) | intro _) | (apply WD.cl0; exact rfl; exact rfl; exact rfl; exact rfl) | (apply WD.cl1; exact rfl; exact rfl; exact rfl; exact rfl) | (apply W.condT; exact rfl) | (apply W.condF; exact rfl) | (apply W.cond; exact rfl; all_goals intro _) | (apply WO.gtr; exact rfl; exact rfl; all_goals first | (intro _; exfalso; omega) | intro _) | (apply WO.eql; exact rfl; exact rfl; all_goals first | (intro _; exfalso; omega) | intro _) | (apply WO.neq; exact rfl; exact rfl; all_goals first | (intro _; exfalso; omega) | intro _) | (apply WO.add; exact rfl; exact rfl; omega) | (apply WO.sub; exact rfl; exact rfl; omega) | (apply WO.remp; exact rfl; exact rfl; omega; intro _ _) | (apply WO.remn; exact rfl; exact rfl; omega; intro _ _) | (apply WO.rem; exact rfl; exact rfl; omega) | (apply WO.lkN; exact rfl; exact rfl; exact rfl; exact rfl; exact rfl) | (apply WO.seql; exact rfl; exact rfl; all_goals first | (intro h; exact absurd h (by decide)) | (intro h; exact absurd rfl h) | (intro h; contradiction) | intro _) | (apply WO.sneq; exact rfl; exact rfl; all_goals first | (intro h; exact absurd h (by decide)) | (intro h; exact absurd rfl h) | (intro h; contradiction) | intro _) | (apply WO.clb; exact rfl; exact rfl; exact rfl; all_goals first | (intro h; exact absurd h (by decide)) | intro _) | (apply WO.cll; exact rfl; exact rfl; exact rfl) | (apply WO.hlv; exact rfl; exact rfl; exact rfl) | (apply WO.hpv; exact rfl; exact rfl; exact rfl) | (apply WO.hnv; exact rfl; exact rfl; exact rfl) | (apply WO.pl; exact rfl; exact rfl) | (apply WO.pp; exact rfl; exact rfl)
        all_goals refine ⟨.inr rfl, rfl, _, rfl, ?_, rfl⟩
        all_goals simp_all [tupA, roundK, roundR, roundN, roundE, stepOf, roundV, kMost, overwrite]
      · repeat' first | apply W.seq | apply SQn | apply W.region | apply WO.nil | apply W.block | apply W.ret | apply W.exit | apply W.skip | apply SQr | apply SQe | apply BQn | apply BQr | apply BQe | (apply BQo; exact rfl) | apply LQe | apply LQr | (apply W.drawro; exact rfl) | apply W.draw | apply WD.nil | (apply WD.gT; exact rfl) | (apply WD.gF; exact rfl) | (apply WD.sT; exact rfl) | (apply WD.sF; exact rfl) | (apply WD.sU; exact rfl) | (apply WD.pure1; exact rfl) | (apply WD.load1; exact rfl; exact rfl; exact rfl) | (apply WD.store1; exact rfl; exact rfl; exact rfl) | (apply WD.new1; exact rfl) | (apply WD.look1; exact rfl; exact rfl) | (apply WD.clb; exact rfl; exact rfl; exact rfl; exact rfl; all_goals first | (intro h; exact absurd h (by decide)) | intro _) | (apply WD.cl0; exact rfl; exact rfl; exact rfl; exact rfl) | (apply WD.cl1; exact rfl; exact rfl; exact rfl; exact rfl) | (apply W.condT; exact rfl) | (apply W.condF; exact rfl) | (apply W.cond; exact rfl; all_goals intro _) | (apply WO.gtr; exact rfl; exact rfl; all_goals first | (intro _; exfalso; omega) | intro _) | (apply WO.eql; exact rfl; exact rfl; all_goals first | (intro _; exfalso; omega) | intro _) | (apply WO.neq; exact rfl; exact rfl; all_goals first | (intro _; exfalso; omega) | intro _) | (apply WO.add; exact rfl; exact rfl; omega) | (apply WO.sub; exact rfl; exact rfl; omega) | (apply WO.remp; exact rfl; exact rfl; omega; intro _ _) | (apply WO.remn; exact rfl; exact rfl; omega; intro _ _) | (apply WO.rem; exact rfl; exact rfl; omega) | (apply WO.lkN; exact rfl; exact rfl; exact rfl; exact rfl; exact rfl) | (apply WO.seql; exact rfl; exact rfl; all_goals first | (intro h; exact absurd h (by decide)) | (intro h; exact absurd rfl h) | (intro h; contradiction) | intro _) | (apply WO.sneq; exact rfl; exact rfl; all_goals first | (intro h; exact absurd h (by decide)) | (intro h; exact absurd rfl h) | (intro h; contradiction) | intro _) | (apply WO.clb; exact rfl; exact rfl; exact rfl; all_goals first | (intro h; exact absurd h (by decide)) | intro _) | (apply WO.cll; exact rfl; exact rfl; exact rfl) | (apply WO.hlv; exact rfl; exact rfl; exact rfl) | (apply WO.hpv; exact rfl; exact rfl; exact rfl) | (apply WO.hnv; exact rfl; exact rfl; exact rfl) | (apply WO.pl; exact rfl; exact rfl) | (apply WO.pp; exact rfl; exact rfl)
        all_goals refine ⟨.inr rfl, rfl, _, rfl, ?_, rfl⟩
        all_goals simp_all [tupA, roundK, roundR, roundN, roundE, stepOf, roundV, kMost, overwrite]
      · repeat' first | apply W.seq | apply SQn | apply W.region | apply WO.nil | apply W.block | apply W.ret | apply W.exit | apply W.skip | apply SQr | apply SQe | apply BQn | apply BQr | apply BQe | (apply BQo; exact rfl) | apply LQe | apply LQr | (apply W.drawro; exact rfl) | apply W.draw | apply WD.nil | (apply WD.gT; exact rfl) | (apply WD.gF; exact rfl) | (apply WD.sT; exact rfl) | (apply WD.sF; exact rfl) | (apply WD.sU; exact rfl) | (apply WD.pure1; exact rfl) | (apply WD.load1; exact rfl; exact rfl; exact rfl) | (apply WD.store1; exact rfl; exact rfl; exact rfl) | (apply WD.new1; exact rfl) | (apply WD.look1; exact rfl; exact rfl) | (apply WD.clb; exact rfl; exact rfl; exact rfl; exact rfl; all_goals first | (intro h; exact absurd h (by decide)) | intro _) | (apply WD.cl0; exact rfl; exact rfl; exact rfl; exact rfl) | (apply WD.cl1; exact rfl; exact rfl; exact rfl; exact rfl) | (apply W.condT; exact rfl) | (apply W.condF; exact rfl) | (apply W.cond; exact rfl; all_goals intro _) | (apply WO.gtr; exact rfl; exact rfl; all_goals first | (intro _; exfalso; omega) | intro _) | (apply WO.eql; exact rfl; exact rfl; all_goals first | (intro _; exfalso; omega) | intro _) | (apply WO.neq; exact rfl; exact rfl; all_goals first | (intro _; exfalso; omega) | intro _) | (apply WO.add; exact rfl; exact rfl; omega) | (apply WO.sub; exact rfl; exact rfl; omega) | (apply WO.remp; exact rfl; exact rfl; omega; intro _ _) | (apply WO.remn; exact rfl; exact rfl; omega; intro _ _) | (apply WO.rem; exact rfl; exact rfl; omega) | (apply WO.lkN; exact rfl; exact rfl; exact rfl; exact rfl; exact rfl) | (apply WO.seql; exact rfl; exact rfl; all_goals first | (intro h; exact absurd h (by decide)) | (intro h; exact absurd rfl h) | (intro h; contradiction) | intro _) | (apply WO.sneq; exact rfl; exact rfl; all_goals first | (intro h; exact absurd h (by decide)) | (intro h; exact absurd rfl h) | (intro h; contradiction) | intro _) | (apply WO.clb; exact rfl; exact rfl; exact rfl; all_goals first | (intro h; exact absurd h (by decide)) | intro _) | (apply WO.cll; exact rfl; exact rfl; exact rfl) | (apply WO.hlv; exact rfl; exact rfl; exact rfl) | (apply WO.hpv; exact rfl; exact rfl; exact rfl) | (apply WO.hnv; exact rfl; exact rfl; exact rfl) | (apply WO.pl; exact rfl; exact rfl) | (apply WO.pp; exact rfl; exact rfl)
        all_goals refine ⟨.inr rfl, rfl, _, rfl, ?_, rfl⟩
        all_goals simp_all [tupA, roundK, roundR, roundN, roundE, stepOf, overwrite]
      · have b1 : (c == sExact) = false := beq_eq_false_iff_ne.2 c1
        have b2 : (c == sHund) = false := beq_eq_false_iff_ne.2 c2
        have b3 : (c == sTenths) = false := beq_eq_false_iff_ne.2 c3
        have b4 : (c == sCent) = false := beq_eq_false_iff_ne.2 c4
        repeat' first | apply W.seq | apply SQn | apply W.region | apply WO.nil | apply W.block | apply W.ret | apply W.exit | apply W.skip | apply SQr | apply SQe | apply BQn | apply BQr | apply BQe | (apply BQo; exact rfl) | apply LQe | apply LQr | (apply W.drawro; exact rfl) | apply W.draw | apply WD.nil | (apply WD.gT; exact rfl) | (apply WD.gF; exact rfl) | (apply WD.sT; exact rfl) | (apply WD.sF; exact rfl) | (apply WD.sU; exact rfl) | (apply WD.pure1; exact rfl) | (apply WD.load1; exact rfl; exact rfl; exact rfl) | (apply WD.store1; exact rfl; exact rfl; exact rfl) | (apply WD.new1; exact rfl) | (apply WD.look1; exact rfl; exact rfl) | (apply WD.clb; exact rfl; exact rfl; exact rfl; exact rfl; all_goals first | (intro h; exact absurd h (by decide)) | intro _) | (apply WD.cl0; exact rfl; exact rfl; exact rfl; exact rfl) | (apply WD.cl1; exact rfl; exact rfl; exact rfl; exact rfl) | (apply W.condT; exact rfl) | (apply W.condF; exact rfl) | (apply W.cond; exact rfl; all_goals intro _) | (apply WO.gtr; exact rfl; exact rfl; all_goals first | (intro _; exfalso; omega) | intro _) | (apply WO.eql; exact rfl; exact rfl; all_goals first | (intro _; exfalso; omega) | intro _) | (apply WO.neq; exact rfl; exact rfl; all_goals first | (intro _; exfalso; omega) | intro _) | (apply WO.add; exact rfl; exact rfl; omega) | (apply WO.sub; exact rfl; exact rfl; omega) | (apply WO.remp; exact rfl; exact rfl; omega; intro _ _) | (apply WO.remn; exact rfl; exact rfl; omega; intro _ _) | (apply WO.rem; exact rfl; exact rfl; omega) | (apply WO.lkN (es := [(.str sExact, .int .i64 1), (.str sHund, .int .i64 100), (.str sTenths, .int .i64 1000)]); exact rfl; exact rfl; exact rfl; exact rfl; simp only [findA, keyEq, b1, b2, b3]) | (apply WO.seql; exact rfl; exact rfl; all_goals first | (intro h; exact absurd h (by decide)) | (intro h; exact absurd rfl h) | (intro h; contradiction) | intro _) | (apply WO.sneq; exact rfl; exact rfl; all_goals first | (intro h; exact absurd h (by decide)) | (intro h; exact absurd rfl h) | (intro h; contradiction) | intro _) | (apply WO.clb; exact rfl; exact rfl; exact rfl; all_goals first | (intro h; exact absurd h (by decide)) | intro _) | (apply WO.cll; exact rfl; exact rfl; exact rfl) | (apply WO.hlv; exact rfl; exact rfl; exact rfl) | (apply WO.hpv; exact rfl; exact rfl; exact rfl) | (apply WO.hnv; exact rfl; exact rfl; exact rfl) | (apply WO.pl; exact rfl; exact rfl) | (apply WO.pp; exact rfl; exact rfl)
        all_goals refine ⟨.inr rfl, rfl, _, rfl, ?_, rfl⟩
        all_goals simp_all [tupA, roundK, roundR, roundN, roundE, stepOf, overwrite]
      · repeat' first | apply W.seq | apply SQn | apply W.region | apply WO.nil | apply W.block | apply W.ret | apply W.exit | apply W.skip | apply SQr | apply SQe | apply BQn | apply BQr | apply BQe | (apply BQo; exact rfl) | apply LQe | apply LQr | (apply W.drawro; exact rfl) | apply W.draw | apply WD.nil | (apply WD.gT; exact rfl) | (apply WD.gF; exact rfl) | (apply WD.sT; exact rfl) | (apply WD.sF; exact rfl) | (apply WD.sU; exact rfl) | (apply WD.pure1; exact rfl) | (apply WD.load1; exact rfl; exact rfl; exact rfl) | (apply WD.store1; exact rfl; exact rfl; exact rfl) | (apply WD.new1; exact rfl) | (apply WD.look1; exact rfl; exact rfl) | (apply WD.clb; exact rfl; exact rfl; exact rfl; exact rfl; all_goals first | (intro h; exact absurd h (by decide)) | intro _) | (apply WD.cl0; exact rfl; exact rfl; exact rfl; exact rfl) | (apply WD.cl1; exact rfl; exact rfl; exact rfl; exact rfl) | (apply W.condT; exact rfl) | (apply W.condF; exact rfl) | (apply W.cond; exact rfl; all_goals intro _) | (apply WO.gtr; exact rfl; exact rfl; all_goals first | (intro _; exfalso; omega) | intro _) | (apply WO.eql; exact rfl; exact rfl; all_goals first | (intro _; exfalso; omega) | intro _) | (apply WO.neq; exact rfl; exact rfl; all_goals first | (intro _; exfalso; omega) | intro _) | (apply WO.add; exact rfl; exact rfl; omega) | (apply WO.sub; exact rfl; exact rfl; omega) | (apply WO.remp; exact rfl; exact rfl; omega; intro _ _) | (apply WO.remn; exact rfl; exact rfl; omega; intro _ _) | (apply WO.rem; exact rfl; exact rfl; omega) | (apply WO.lkN; exact rfl; exact rfl; exact rfl; exact rfl; exact rfl) | (apply WO.seql; exact rfl; exact rfl; all_goals first | (intro h; exact absurd h (by decide)) | (intro h; exact absurd rfl h) | (intro h; contradiction) | intro _) | (apply WO.sneq; exact rfl; exact rfl; all_goals first | (intro h; exact absurd h (by decide)) | (intro h; exact absurd rfl h) | (intro h; contradiction) | intro _) | (apply WO.clb; exact rfl; exact rfl; exact rfl; all_goals first | (intro h; exact absurd h (by decide)) | intro _) | (apply WO.cll; exact rfl; exact rfl; exact rfl) | (apply WO.hlv; exact rfl; exact rfl; exact rfl) | (apply WO.hpv; exact rfl; exact rfl; exact rfl) | (apply WO.hnv; exact rfl; exact rfl; exact rfl) | (apply WO.pl; exact rfl; exact rfl) | (apply WO.pp; exact rfl; exact rfl)
        all_goals refine ⟨.inr rfl, rfl, _, rfl, ?_, rfl⟩
        all_goals simp_all [tupA, roundK, roundR, roundN, roundE, stepOf, roundV, kMost, overwrite]
      · repeat' first | apply W.seq | apply SQn | apply W.region | apply WO.nil | apply W.block | apply W.ret | apply W.exit | apply W.skip | apply SQr | apply SQe | apply BQn | apply BQr | apply BQe | (apply BQo; exact rfl) | apply LQe | apply LQr | (apply W.drawro; exact rfl) | apply W.draw | apply WD.nil | (apply WD.gT; exact rfl) | (apply WD.gF; exact rfl) | (apply WD.sT; exact rfl) | (apply WD.sF; exact rfl) | (apply WD.sU; exact rfl) | (apply WD.pure1; exact rfl) | (apply WD.load1; exact rfl; exact rfl; exact rfl) | (apply WD.store1; exact rfl; exact rfl; exact rfl) | (apply WD.new1; exact rfl) | (apply WD.look1; exact rfl; exact rfl) | (apply WD.clb; exact rfl; exact rfl; exact rfl; exact rfl; all_goals first | (intro h; exact absurd h (by decide)) | intro _) | (apply WD.cl0; exact rfl; exact rfl; exact rfl; exact rfl) | (apply WD.cl1; exact rfl; exact rfl; exact rfl; exact rfl) | (apply W.condT; exact rfl) | (apply W.condF; exact rfl) | (apply W.cond; exact rfl; all_goals intro _) | (apply WO.gtr; exact rfl; exact rfl; all_goals first | (intro _; exfalso; omega) | intro _) | (apply WO.eql; exact rfl; exact rfl; all_goals first | (intro _; exfalso; omega) | intro _) | (apply WO.neq; exact rfl; exact rfl; all_goals first | (intro _; exfalso; omega) | intro _) | (apply WO.add; exact rfl; exact rfl; omega) | (apply WO.sub; exact rfl; exact rfl; omega) | (apply WO.remp; exact rfl; exact rfl; omega; intro _ _) | (apply WO.remn; exact rfl; exact rfl; omega; intro _ _) | (apply WO.rem; exact rfl; exact rfl; omega) | (apply WO.lkN; exact rfl; exact rfl; exact rfl; exact rfl; exact rfl) | (apply WO.seql; exact rfl; exact rfl; all_goals first | (intro h; exact absurd h (by decide)) | (intro h; exact absurd rfl h) | (intro h; contradiction) | intro _) | (apply WO.sneq; exact rfl; exact rfl; all_goals first | (intro h; exact absurd h (by decide)) | (intro h; exact absurd rfl h) | (intro h; contradiction) | intro _) | (apply WO.clb; exact rfl; exact rfl; exact rfl; all_goals first | (intro h; exact absurd h (by decide)) | intro _) | (apply WO.cll; exact rfl; exact rfl; exact rfl) | (apply WO.hlv; exact rfl; exact rfl; exact rfl) | (apply WO.hpv; exact rfl; exact rfl; exact rfl) | (apply WO.hnv; exact rfl; exact rfl; exact rfl) | (apply WO.pl; exact rfl; exact rfl) | (apply WO.pp; exact rfl; exact rfl)
        all_goals refine ⟨.inr rfl, rfl, _, rfl, ?_, rfl⟩
        all_goals simp_all [tupA, roundK, roundR, roundN, roundE, stepOf, overwrite]
      · repeat' first | apply W.seq | apply SQn | apply W.region | apply WO.nil | apply W.block | apply W.ret | apply W.exit | apply W.skip | apply SQr | apply SQe | apply BQn | apply BQr | apply BQe | (apply BQo; exact rfl) | apply LQe | apply LQr | (apply W.drawro; exact rfl) | apply W.draw | apply WD.nil | (apply WD.gT; exact rfl) | (apply WD.gF; exact rfl) | (apply WD.sT; exact rfl) | (apply WD.sF; exact rfl) | (apply WD.sU; exact rfl) | (apply WD.pure1; exact rfl) | (apply WD.load1; exact rfl; exact rfl; exact rfl) | (apply WD.store1; exact rfl; exact rfl; exact rfl) | (apply WD.new1; exact rfl) | (apply WD.look1; exact rfl; exact rfl) | (apply WD.clb; exact rfl; exact rfl; exact rfl; exact rfl; all_goals first | (intro h; exact absurd h (by decide)) | intro _) | (apply WD.cl0; exact rfl; exact rfl; exact rfl; exact rfl) | (apply WD.cl1; exact rfl; exact rfl; exact rfl; exact rfl) | (apply W.condT; exact rfl) | (apply W.condF; exact rfl) | (apply W.cond; exact rfl; all_goals intro _) | (apply WO.gtr; exact rfl; exact rfl; all_goals first | (intro _; exfalso; omega) | intro _) | (apply WO.eql; exact rfl; exact rfl; all_goals first | (intro _; exfalso; omega) | intro _) | (apply WO.neq; exact rfl; exact rfl; all_goals first | (intro _; exfalso; omega) | intro _) | (apply WO.add; exact rfl; exact rfl; omega) | (apply WO.sub; exact rfl; exact rfl; omega) | (apply WO.remp; exact rfl; exact rfl; omega; intro _ _) | (apply WO.remn; exact rfl; exact rfl; omega; intro _ _) | (apply WO.rem; exact rfl; exact rfl; omega) | (apply WO.lkN; exact rfl; exact rfl; exact rfl; exact rfl; exact rfl) | (apply WO.seql; exact rfl; exact rfl; all_goals first | (intro h; exact absurd h (by decide)) | (intro h; exact absurd rfl h) | (intro h; contradiction) | intro _) | (apply WO.sneq; exact rfl; exact rfl; all_goals first | (intro h; exact absurd h (by decide)) | (intro h; exact absurd rfl h) | (intro h; contradiction) | intro _) | (apply WO.clb; exact rfl; exact rfl; exact rfl; all_goals first | (intro h; exact absurd h (by decide)) | intro _) | (apply WO.cll; exact rfl; exact rfl; exact rfl) | (apply WO.hlv; exact rfl; exact rfl; exact rfl) | (apply WO.hpv; exact rfl; exact rfl; exact rfl) | (apply WO.hnv; exact rfl; exact rfl; exact rfl) | (apply WO.pl; exact rfl; exact rfl) | (apply WO.pp; exact rfl; exact rfl)
        all_goals refine ⟨.inr rfl, rfl, _, rfl, ?_, rfl⟩
        all_goals simp_all [tupA, roundK, roundR, roundN, roundE, stepOf, overwrite]
      · repeat' first | apply W.seq | apply SQn | apply W.region | apply WO.nil | apply W.block | apply W.ret | apply W.exit | apply W.skip | apply SQr | apply SQe | apply BQn | apply BQr | apply BQe | (apply BQo; exact rfl) | apply LQe | apply LQr | (apply W.drawro; exact rfl) | apply W.draw | apply WD.nil | (apply WD.gT; exact rfl) | (apply WD.gF; exact rfl) | (apply WD.sT; exact rfl) | (apply WD.sF; exact rfl) | (apply WD.sU; exact rfl) | (apply WD.pure1; exact rfl) | (apply WD.load1; exact rfl; exact rfl; exact rfl) | (apply WD.store1; exact rfl; exact rfl; exact rfl) | (apply WD.new1; exact rfl) | (apply WD.look1; exact rfl; exact rfl) | (apply WD.clb; exact rfl; exact rfl; exact rfl; exact rfl; all_goals first | (intro h; exact absurd h (by decide)) | intro _) | (apply WD.cl0; exact rfl; exact rfl; exact rfl; exact rfl) | (apply WD.cl1; exact rfl; exact rfl; exact rfl; exact rfl) | (apply W.condT; exact rfl) | (apply W.condF; exact rfl) | (apply W.cond; exact rfl; all_goals intro _) | (apply WO.gtr; exact rfl; exact rfl; all_goals first | (intro _; exfalso; omega) | intro _) | (apply WO.eql; exact rfl; exact rfl; all_goals first | (intro _; exfalso; omega) | intro _) | (apply WO.neq; exact rfl; exact rfl; all_goals first | (intro _; exfalso; omega) | intro _) | (apply WO.add; exact rfl; exact rfl; omega) | (apply WO.sub; exact rfl; exact rfl; omega) | (apply WO.remp; exact rfl; exact rfl; omega; intro _ _) | (apply WO.remn; exact rfl; exact rfl; omega; intro _ _) | (apply WO.rem; exact rfl; exact rfl; omega) | (apply WO.lkN; exact rfl; exact rfl; exact rfl; exact rfl; exact rfl) | (apply WO.seql; exact rfl; exact rfl; all_goals first | (intro h; exact absurd h (by decide)) | (intro h; exact absurd rfl h) | (intro h; contradiction) | intro _) | (apply WO.sneq; exact rfl; exact rfl; all_goals first | (intro h; exact absurd h (by decide)) | (intro h; exact absurd rfl h) | (intro h; contradiction) | intro _) | (apply WO.clb; exact rfl; exact rfl; exact rfl; all_goals first | (intro h; exact absurd h (by decide)) | intro _) | (apply WO.cll; exact rfl; exact rfl; exact rfl) | (apply WO.hlv; exact rfl; exact rfl; exact rfl) | (apply WO.hpv; exact rfl; exact rfl; exact rfl) | (apply WO.hnv; exact rfl; exact rfl; exact rfl) | (apply WO.pl; exact rfl; exact rfl) | (apply WO.pp; exact rfl; exact rfl)
        all_goals refine ⟨.inr rfl, rfl, _, rfl, ?_, rfl⟩
        all_goals simp_all [tupA, roundK, roundR, roundN, roundE, stepOf, roundV, kMost, overwrite]
      · have b1 : (c == sExact) = false := beq_eq_false_iff_ne.2 c1
        have b2 : (c == sHund) = false := beq_eq_false_iff_ne.2 c2
        have b3 : (c == sTenths) = false := beq_eq_false_iff_ne.2 c3
        have b4 : (c == sCent) = false := beq_eq_false_iff_ne.2 c4
        repeat' first | apply W.seq | apply SQn | apply W.region | apply WO.nil | apply W.block | apply W.ret | apply W.exit | apply W.skip | apply SQr | apply SQe | apply BQn | apply BQr | apply BQe | (apply BQo; exact rfl) | apply LQe | apply LQr | (apply W.drawro; exact rfl) | apply W.draw | apply WD.nil | (apply WD.gT; exact rfl) | (apply WD.gF; exact rfl) | (apply WD.sT; exact rfl) | (apply WD.sF; exact rfl) | (apply WD.sU; exact rfl) | (apply WD.pure1; exact rfl) | (apply WD.load1; exact rfl; exact rfl; exact rfl) | (apply WD.store1; exact rfl; exact rfl; exact rfl) | (apply WD.new1; exact rfl) | (apply WD.look1; exact rfl; exact rfl) | (apply WD.clb; exact rfl; exact rfl; exact rfl; exact rfl; all_goals first | (intro h; exact absurd h (by decide)) | intro _) | (apply WD.cl0; exact rfl; exact rfl; exact rfl; exact rfl) | (apply WD.cl1; exact rfl; exact rfl; exact rfl; exact rfl) | (apply W.condT; exact rfl) | (apply W.condF; exact rfl) | (apply W.cond; exact rfl; all_goals intro _) | (apply WO.gtr; exact rfl; exact rfl; all_goals first | (intro _; exfalso; omega) | intro _) | (apply WO.eql; exact rfl; exact rfl; all_goals first | (intro _; exfalso; omega) | intro _) | (apply WO.neq; exact rfl; exact rfl; all_goals first | (intro _; exfalso; omega) | intro _) | (apply WO.add; exact rfl; exact rfl; omega) | (apply WO.sub; exact rfl; exact rfl; omega) | (apply WO.remp; exact rfl; exact rfl; omega; intro _ _) | (apply WO.remn; exact rfl; exact rfl; omega; intro _ _) | (apply WO.rem; exact rfl; exact rfl; omega) | (apply WO.lkN (es := [(.str sExact, .int .i64 1), (.str sCent, .int .i64 10)]); exact rfl; exact rfl; exact rfl; exact rfl; simp only [findA, keyEq, b1, b4]) | (apply WO.seql; exact rfl; exact rfl; all_goals first | (intro h; exact absurd h (by decide)) | (intro h; exact absurd rfl h) | (intro h; contradiction) | intro _) | (apply WO.sneq; exact rfl; exact rfl; all_goals first | (intro h; exact absurd h (by decide)) | (intro h; exact absurd rfl h) | (intro h; contradiction) | intro _) | (apply WO.clb; exact rfl; exact rfl; exact rfl; all_goals first | (intro h; exact absurd h (by decide)) | intro _) | (apply WO.cll; exact rfl; exact rfl; exact rfl) | (apply WO.hlv; exact rfl; exact rfl; exact rfl) | (apply WO.hpv; exact rfl; exact rfl; exact rfl) | (apply WO.hnv; exact rfl; exact rfl; exact rfl) | (apply WO.pl; exact rfl; exact rfl) | (apply WO.pp; exact rfl; exact rfl)
        all_goals refine ⟨.inr rfl, rfl, _, rfl, ?_, rfl⟩
        all_goals simp_all [tupA, roundK, roundR, roundN, roundE, stepOf, overwrite]
      · repeat' first | apply W.seq | apply SQn | apply W.region | apply WO.nil | apply W.block | apply W.ret | apply W.exit | apply W.skip | apply SQr | apply SQe | apply BQn | apply BQr | apply BQe | (apply BQo; exact rfl) | apply LQe | apply LQr | (apply W.drawro; exact rfl) | apply W.draw | apply WD.nil | (apply WD.gT; exact rfl) | (apply WD.gF; exact rfl) | (apply WD.sT; exact rfl) | (apply WD.sF; exact rfl) | (apply WD.sU; exact rfl) | (apply WD.pure1; exact rfl) | (apply WD.load1; exact rfl; exact rfl; exact rfl) | (apply WD.store1; exact rfl; exact rfl; exact rfl) | (apply WD.new1; exact rfl) | (apply WD.look1; exact rfl; exact rfl) | (apply WD.clb; exact rfl; exact rfl; exact rfl; exact rfl; all_goals first | (intro h; exact absurd h (by decide)) | intro _) | (apply WD.cl0; exact rfl; exact rfl; exact rfl; exact rfl) | (apply WD.cl1; exact rfl; exact rfl; exact rfl; exact rfl) | (apply W.condT; exact rfl) | (apply W.condF; exact rfl) | (apply W.cond; exact rfl; all_goals intro _) | (apply WO.gtr; exact rfl; exact rfl; all_goals first | (intro _; exfalso; omega) | intro _) | (apply WO.eql; exact rfl; exact rfl; all_goals first | (intro _; exfalso; omega) | intro _) | (apply WO.neq; exact rfl; exact rfl; all_goals first | (intro _; exfalso; omega) | intro _) | (apply WO.add; exact rfl; exact rfl; omega) | (apply WO.sub; exact rfl; exact rfl; omega) | (apply WO.remp; exact rfl; exact rfl; omega; intro _ _) | (apply WO.remn; exact rfl; exact rfl; omega; intro _ _) | (apply WO.rem; exact rfl; exact rfl; omega) | (apply WO.lkN; exact rfl; exact rfl; exact rfl; exact rfl; exact rfl) | (apply WO.seql; exact rfl; exact rfl; all_goals first | (intro h; exact absurd h (by decide)) | (intro h; exact absurd rfl h) | (intro h; contradiction) | intro _) | (apply WO.sneq; exact rfl; exact rfl; all_goals first | (intro h; exact absurd h (by decide)) | (intro h; exact absurd rfl h) | (intro h; contradiction) | intro _) | (apply WO.clb; exact rfl; exact rfl; exact rfl; all_goals first | (intro h; exact absurd h (by decide)) | intro _) | (apply WO.cll; exact rfl; exact rfl; exact rfl) | (apply WO.hlv; exact rfl; exact rfl; exact rfl) | (apply WO.hpv; exact rfl; exact rfl; exact rfl) | (apply WO.hnv; exact rfl; exact rfl; exact rfl) | (apply WO.pl; exact rfl; exact rfl) | (apply WO.pp; exact rfl; exact rfl)
        all_goals refine ⟨.inr rfl, rfl, _, rfl, ?_, rfl⟩
        all_goals simp_all [tupA, roundK, roundR, roundN, roundE, stepOf, roundV, kMost, overwrite]
      · repeat' first | apply W.seq | apply SQn | apply W.region | apply WO.nil | apply W.block | apply W.ret | apply W.exit | apply W.skip | apply SQr | apply SQe | apply BQn | apply BQr | apply BQe | (apply BQo; exact rfl) | apply LQe | apply LQr | (apply W.drawro; exact rfl) | apply W.draw | apply WD.nil | (apply WD.gT; exact rfl) | (apply WD.gF; exact rfl) | (apply WD.sT; exact rfl) | (apply WD.sF; exact rfl) | (apply WD.sU; exact rfl) | (apply WD.pure1; exact rfl) | (apply WD.load1; exact rfl; exact rfl; exact rfl) | (apply WD.store1; exact rfl; exact rfl; exact rfl) | (apply WD.new1; exact rfl) | (apply WD.look1; exact rfl; exact rfl) | (apply WD.clb; exact rfl; exact rfl; exact rfl; exact rfl; all_goals first | (intro h; exact absurd h (by decide)) | intro _) | (apply WD.cl0; exact rfl; exact rfl; exact rfl; exact rfl) | (apply WD.cl1; exact rfl; exact rfl; exact rfl; exact rfl) | (apply W.condT; exact rfl) | (apply W.condF; exact rfl) | (apply W.cond; exact rfl; all_goals intro _) | (apply WO.gtr; exact rfl; exact rfl; all_goals first | (intro _; exfalso; omega) | intro _) | (apply WO.eql; exact rfl; exact rfl; all_goals first | (intro _; exfalso; omega) | intro _) | (apply WO.neq; exact rfl; exact rfl; all_goals first | (intro _; exfalso; omega) | intro _) | (apply WO.add; exact rfl; exact rfl; omega) | (apply WO.sub; exact rfl; exact rfl; omega) | (apply WO.remp; exact rfl; exact rfl; omega; intro _ _) | (apply WO.remn; exact rfl; exact rfl; omega; intro _ _) | (apply WO.rem; exact rfl; exact rfl; omega) | (apply WO.lkN; exact rfl; exact rfl; exact rfl; exact rfl; exact rfl) | (apply WO.seql; exact rfl; exact rfl; all_goals first | (intro h; exact absurd h (by decide)) | (intro h; exact absurd rfl h) | (intro h; contradiction) | intro _) | (apply WO.sneq; exact rfl; exact rfl; all_goals first | (intro h; exact absurd h (by decide)) | (intro h; exact absurd rfl h) | (intro h; contradiction) | intro _) | (apply WO.clb; exact rfl; exact rfl; exact rfl; all_goals first | (intro h; exact absurd h (by decide)) | intro _) | (apply WO.cll; exact rfl; exact rfl; exact rfl) | (apply WO.hlv; exact rfl; exact rfl; exact rfl) | (apply WO.hpv; exact rfl; exact rfl; exact rfl) | (apply WO.hnv; exact rfl; exact rfl; exact rfl) | (apply WO.pl; exact rfl; exact rfl) | (apply WO.pp; exact rfl; exact rfl)
        all_goals refine ⟨.inr rfl, rfl, _, rfl, ?_, rfl⟩
        all_goals simp_all [tupA, roundK, roundR, roundN, roundE, stepOf, overwrite]
      · repeat' first | apply W.seq | apply SQn | apply W.region | apply WO.nil | apply W.block | apply W.ret | apply W.exit | apply W.skip | apply SQr | apply SQe | apply BQn | apply BQr | apply BQe | (apply BQo; exact rfl) | apply LQe | apply LQr | (apply W.drawro; exact rfl) | apply W.draw | apply WD.nil | (apply WD.gT; exact rfl) | (apply WD.gF; exact rfl) | (apply WD.sT; exact rfl) | (apply WD.sF; exact rfl) | (apply WD.sU; exact rfl) | (apply WD.pure1; exact rfl) | (apply WD.load1; exact rfl; exact rfl; exact rfl) | (apply WD.store1; exact rfl; exact rfl; exact rfl) | (apply WD.new1; exact rfl) | (apply WD.look1; exact rfl; exact rfl) | (apply WD.clb; exact rfl; exact rfl; exact rfl; exact rfl; all_goals first | (intro h; exact absurd h (by decide)) | intro _) | (apply WD.cl0; exact rfl; exact rfl; exact rfl; exact rfl) | (apply WD.cl1; exact rfl; exact rfl; exact rfl; exact rfl) | (apply W.condT; exact rfl) | (apply W.condF; exact rfl) | (apply W.cond; exact rfl; all_goals intro _) | (apply WO.gtr; exact rfl; exact rfl; all_goals first | (intro _; exfalso; omega) | intro _) | (apply WO.eql; exact rfl; exact rfl; all_goals first | (intro _; exfalso; omega) | intro _) | (apply WO.neq; exact rfl; exact rfl; all_goals first | (intro _; exfalso; omega) | intro _) | (apply WO.add; exact rfl; exact rfl; omega) | (apply WO.sub; exact rfl; exact rfl; omega) | (apply WO.remp; exact rfl; exact rfl; omega; intro _ _) | (apply WO.remn; exact rfl; exact rfl; omega; intro _ _) | (apply WO.rem; exact rfl; exact rfl; omega) | (apply WO.lkN; exact rfl; exact rfl; exact rfl; exact rfl; exact rfl) | (apply WO.seql; exact rfl; exact rfl; all_goals first | (intro h; exact absurd h (by decide)) | (intro h; exact absurd rfl h) | (intro h; contradiction) | intro _) | (apply WO.sneq; exact rfl; exact rfl; all_goals first | (intro h; exact absurd h (by decide)) | (intro h; exact absurd rfl h) | (intro h; contradiction) | intro _) | (apply WO.clb; exact rfl; exact rfl; exact rfl; all_goals first | (intro h; exact absurd h (by decide)) | intro _) | (apply WO.cll; exact rfl; exact rfl; exact rfl) | (apply WO.hlv; exact rfl; exact rfl; exact rfl) | (apply WO.hpv; exact rfl; exact rfl; exact rfl) | (apply WO.hnv; exact rfl; exact rfl; exact rfl) | (apply WO.pl; exact rfl; exact rfl) | (apply WO.pp; exact rfl; exact rfl)
        all_goals refine ⟨.inr rfl, rfl, _, rfl, ?_, rfl⟩
        all_goals simp_all [tupA, roundK, roundR, roundN, roundE, stepOf, overwrite]
      · repeat' first | apply W.seq | apply SQn | apply W.region | apply WO.nil | apply W.block | apply W.ret | apply W.exit | apply W.skip | apply SQr | apply SQe | apply BQn | apply BQr | apply BQe | (apply BQo; exact rfl) | apply LQe | apply LQr | (apply W.drawro; exact rfl) | apply W.draw | apply WD.nil | (apply WD.gT; exact rfl) | (apply WD.gF; exact rfl) | (apply WD.sT; exact rfl) | (apply WD.sF; exact rfl) | (apply WD.sU; exact rfl) | (apply WD.pure1; exact rfl) | (apply WD.load1; exact rfl; exact rfl; exact rfl) | (apply WD.store1; exact rfl; exact rfl; exact rfl) | (apply WD.new1; exact rfl) | (apply WD.look1; exact rfl; exact rfl) | (apply WD.clb; exact rfl; exact rfl; exact rfl; exact rfl; all_goals first | (intro h; exact absurd h (by decide)) | intro _) | (apply WD.cl0; exact rfl; exact rfl; exact rfl; exact rfl) | (apply WD.cl1; exact rfl; exact rfl; exact rfl; exact rfl) | (apply W.condT; exact rfl) | (apply W.condF; exact rfl) | (apply W.cond; exact rfl; all_goals intro _) | (apply WO.gtr; exact rfl; exact rfl; all_goals first | (intro _; exfalso; omega) | intro _) | (apply WO.eql; exact rfl; exact rfl; all_goals first | (intro _; exfalso; omega) | intro _) | (apply WO.neq; exact rfl; exact rfl; all_goals first | (intro _; exfalso; omega) | intro _) | (apply WO.add; exact rfl; exact rfl; omega) | (apply WO.sub; exact rfl; exact rfl; omega) | (apply WO.remp; exact rfl; exact rfl; omega; intro _ _) | (apply WO.remn; exact rfl; exact rfl; omega; intro _ _) | (apply WO.rem; exact rfl; exact rfl; omega) | (apply WO.lkN; exact rfl; exact rfl; exact rfl; exact rfl; exact rfl) | (apply WO.seql; exact rfl; exact rfl; all_goals first | (intro h; exact absurd h (by decide)) | (intro h; exact absurd rfl h) | (intro h; contradiction) | intro _) | (apply WO.sneq; exact rfl; exact rfl; all_goals first | (intro h; exact absurd h (by decide)) | (intro h; exact absurd rfl h) | (intro h; contradiction) | intro _) | (apply WO.clb; exact rfl; exact rfl; exact rfl; all_goals first | (intro h; exact absurd h (by decide)) | intro _) | (apply WO.cll; exact rfl; exact rfl; exact rfl) | (apply WO.hlv; exact rfl; exact rfl; exact rfl) | (apply WO.hpv; exact rfl; exact rfl; exact rfl) | (apply WO.hnv; exact rfl; exact rfl; exact rfl) | (apply WO.pl; exact rfl; exact rfl) | (apply WO.pp; exact rfl; exact rfl)
        all_goals refine ⟨.inr rfl, rfl, _, rfl, ?_, rfl⟩
        all_goals simp_all [tupA, roundK, roundR, roundN, roundE, stepOf, overwrite]
      · have b1 : (c == sExact) = false := beq_eq_false_iff_ne.2 c1
        have b2 : (c == sHund) = false := beq_eq_false_iff_ne.2 c2
        have b3 : (c == sTenths) = false := beq_eq_false_iff_ne.2 c3
        have b4 : (c == sCent) = false := beq_eq_false_iff_ne.2 c4
        repeat' first | apply W.seq | apply SQn | apply W.region | apply WO.nil | apply W.block | apply W.ret | apply W.exit | apply W.skip | apply SQr | apply SQe | apply BQn | apply BQr | apply BQe | (apply BQo; exact rfl) | apply LQe | apply LQr | (apply W.drawro; exact rfl) | apply W.draw | apply WD.nil | (apply WD.gT; exact rfl) | (apply WD.gF; exact rfl) | (apply WD.sT; exact rfl) | (apply WD.sF; exact rfl) | (apply WD.sU; exact rfl) | (apply WD.pure1; exact rfl) | (apply WD.load1; exact rfl; exact rfl; exact rfl) | (apply WD.store1; exact rfl; exact rfl; exact rfl) | (apply WD.new1; exact rfl) | (apply WD.look1; exact rfl; exact rfl) | (apply WD.clb; exact rfl; exact rfl; exact rfl; exact rfl; all_goals first | (intro h; exact absurd h (by decide)) | intro _) | (apply WD.cl0; exact rfl; exact rfl; exact rfl; exact rfl) | (apply WD.cl1; exact rfl; exact rfl; exact rfl; exact rfl) | (apply W.condT; exact rfl) | (apply W.condF; exact rfl) | (apply W.cond; exact rfl; all_goals intro _) | (apply WO.gtr; exact rfl; exact rfl; all_goals first | (intro _; exfalso; omega) | intro _) | (apply WO.eql; exact rfl; exact rfl; all_goals first | (intro _; exfalso; omega) | intro _) | (apply WO.neq; exact rfl; exact rfl; all_goals first | (intro _; exfalso; omega) | intro _) | (apply WO.add; exact rfl; exact rfl; omega) | (apply WO.sub; exact rfl; exact rfl; omega) | (apply WO.remp; exact rfl; exact rfl; omega; intro _ _) | (apply WO.remn; exact rfl; exact rfl; omega; intro _ _) | (apply WO.rem; exact rfl; exact rfl; omega) | (apply WO.lkN (es := [(.str sExact, .int .i64 1)]); exact rfl; exact rfl; exact rfl; exact rfl; simp only [findA, keyEq, b1]) | (apply WO.seql; exact rfl; exact rfl; all_goals first | (intro h; exact absurd h (by decide)) | (intro h; exact absurd rfl h) | (intro h; contradiction) | intro _) | (apply WO.sneq; exact rfl; exact rfl; all_goals first | (intro h; exact absurd h (by decide)) | (intro h; exact absurd rfl h) | (intro h; contradiction) | intro _) | (apply WO.clb; exact rfl; exact rfl; exact rfl; all_goals first | (intro h; exact absurd h (by decide)) | intro _) | (apply WO.cll; exact rfl; exact rfl; exact rfl) | (apply WO.hlv; exact rfl; exact rfl; exact rfl) | (apply WO.hpv; exact rfl; exact rfl; exact rfl) | (apply WO.hnv; exact rfl; exact rfl; exact rfl) | (apply WO.pl; exact rfl; exact rfl) | (apply WO.pp; exact rfl; exact rfl)
        all_goals refine ⟨.inr rfl, rfl, _, rfl, ?_, rfl⟩
        all_goals simp_all [tupA, roundK, roundR, roundN, roundE, stepOf, overwrite]
  · repeat' first | apply W.seq | apply SQn | apply W.region | apply WO.nil | apply W.block | apply W.ret | apply W.exit | apply W.skip | apply SQr | apply SQe | apply BQn | apply BQr | apply BQe | (apply BQo; exact rfl) | apply LQe | apply LQr | (apply W.drawro; exact rfl) | apply W.draw | apply WD.nil | (apply WD.gT; exact rfl) | (apply WD.gF; exact rfl) | (apply WD.sT; exact rfl) | (apply WD.sF; exact rfl) | (apply WD.sU; exact rfl) | (apply WD.pure1; exact rfl) | (apply WD.load1; exact rfl; exact rfl; exact rfl) | (apply WD.store1; exact rfl; exact rfl; exact rfl) | (apply WD.new1; exact rfl) | (apply WD.look1; exact rfl; exact rfl) | (apply WD.clb; exact rfl; exact rfl; exact rfl; exact rfl; all_goals first | (intro h; exact absurd h (by decide)) | intro _) | (apply WD.cl0; exact rfl; exact rfl; exact rfl; exact rfl) | (apply WD.cl1; exact rfl; exact rfl; exact rfl; exact rfl) | (apply W.condT; exact rfl) | (apply W.condF; exact rfl) | (apply W.cond; exact rfl; all_goals intro _) | (apply WO.gtr; exact rfl; exact rfl; all_goals first | (intro _; exfalso; omega) | intro _) | (apply WO.eql; exact rfl; exact rfl; all_goals first | (intro _; exfalso; omega) | intro _) | (apply WO.neq; exact rfl; exact rfl; all_goals first | (intro _; exfalso; omega) | intro _) | (apply WO.add; exact rfl; exact rfl; omega) | (apply WO.sub; exact rfl; exact rfl; omega) | (apply WO.remp; exact rfl; exact rfl; omega; intro _ _) | (apply WO.remn; exact rfl; exact rfl; omega; intro _ _) | (apply WO.rem; exact rfl; exact rfl; omega) | (apply WO.seql; exact rfl; exact rfl; all_goals first | (intro h; exact absurd h (by decide)) | (intro h; exact absurd rfl h) | (intro h; contradiction) | intro _) | (apply WO.sneq; exact rfl; exact rfl; all_goals first | (intro h; exact absurd h (by decide)) | (intro h; exact absurd rfl h) | (intro h; contradiction) | intro _) | (apply WO.clb; exact rfl; exact rfl; exact rfl; all_goals first | (intro h; exact absurd h (by decide)) | intro _) | (apply WO.cll; exact rfl; exact rfl; exact rfl) | (apply WO.hlv; exact rfl; exact rfl; exact rfl) | (apply WO.hpv; exact rfl; exact rfl; exact rfl) | (apply WO.hnv; exact rfl; exact rfl; exact rfl) | (apply WO.pl; exact rfl; exact rfl) | (apply WO.pp; exact rfl; exact rfl)
    all_goals refine ⟨.inr rfl, rfl, _, rfl, ?_, rfl⟩
    all_goals simp_all [tupA, roundK, roundR, roundN, roundE, overwrite]
end Go.Ab.Ch1


/-
  Own work: marks of chapter 1: the reference's rounding, winds, the law's own helpers.
-/
namespace Go.Ab.Ch1
variable {inv : InvF} {F : FuncId → Option IFunc}

def stepS (c : List UInt8) : Int := if c = sHund then 100 else if c = sTenths then 1000 else if c = sCent then 10 else if c = sExact then 1 else 0
def stepK (c : List UInt8) : List UInt8 := if c = sHund then sTime else if c = sTenths then sTime else if c = sCent then sLength else []
def specStep : Spec := fun
  | [.str c], h => some ⟨.tup [.int .i64 (stepS c), .str (stepK c)], h, []⟩
  | _, _ => none
theorem w69 {T : List (Nat × Spec)} (hft : F = FT) (c : List UInt8) : Run (mk0 T inv F) 69 [.str c] [] ⟨.tup [.int .i64 (stepS c), .str (stepK c)], [], []⟩ := by
  refine run_of_W (show F 69 = _ from by rw [hft]; exact ft69) (by simp) ?_
  unfold b69
  simp only [List.map_cons, List.map_nil, List.getElem?_cons_zero, List.getElem?_cons_succ, List.getElem?_nil, Option.getD_some, Option.getD_none]
  repeat' first | apply W.seq | apply SQn | apply W.region | apply WO.nil | apply W.block | apply W.ret | apply W.exit | apply W.skip | apply SQr | apply SQe | apply BQn | apply BQr | apply BQe | (apply BQo; exact rfl) | apply LQe | apply LQr | (apply W.condT; exact rfl) | (apply W.condF; exact rfl) | (apply W.cond; exact rfl; all_goals intro _) | (apply WO.eql; exact rfl; exact rfl; all_goals first | (intro _; exfalso; omega) | intro _) | (apply WO.seql; exact rfl; exact rfl; all_goals first | (intro h; exact absurd h (by decide)) | (intro h; exact absurd rfl h) | (intro h; contradiction) | intro _) | (apply WO.pl; exact rfl; exact rfl) | (apply WO.pp; exact rfl; exact rfl)
  all_goals exact ⟨.inr rfl, rfl, _, rfl, by simp [tupA, stepS, stepK, *], rfl⟩

def specMost : Spec := fun
  | [.str k], h => some ⟨.int .i64 (kMost k), h, []⟩
  | _, _ => none
end Go.Ab.Ch1


/-
  Own work: marks of chapter 1: winds, the reference's order, MarkChecks.
-/
namespace Go.Ab.Ch1
variable {inv : InvF} {F : FuncId → Option IFunc}

/-- Hundredths as tenths, upwards. -/
def wind (h : Int) : Int := -(-h / 10)
def specWind : Spec := fun
  | [.int .i64 n], h => some ⟨.tup [.int .i64 (if n < -9999 ∨ 9999 < n then 0 else wind n), .int .i64 (if n < -9999 ∨ 9999 < n then 3 else 0)], h, []⟩
  | _, _ => none
def specOut : Spec := fun
  | [.int .i64 x, .int .i64 lo, .int .i64 hi], h => some ⟨.bool (decide (x < lo) || decide (hi < x)), h, []⟩
  | _, _ => none
def TWind : List (Nat × Spec) := [(95, specOut)]
theorem w42 (hft : F = FT) (n : Int) : Run (mk0 TWind inv F) 42 [.int .i64 n] [] ⟨.tup [.int .i64 (if n < -9999 ∨ 9999 < n then 0 else wind n), .int .i64 (if n < -9999 ∨ 9999 < n then 3 else 0)], [], []⟩ := by
  refine run_of_W (show F 42 = _ from by rw [hft]; exact ft42) (by simp) ?_
  unfold b42
  simp only [List.map_cons, List.map_nil, List.getElem?_cons_zero, List.getElem?_cons_succ, List.getElem?_nil, Option.getD_some, Option.getD_none]
  by_cases hc : n < -9999 ∨ 9999 < n
  · have ho : ∀ h, (mk0 TWind inv F).ext 95 [.int .i64 n, .int .i64 (-9999), .int .i64 9999] h = some ⟨.bool true, h, []⟩ := fun h => by
      show some _ = _
      rw [show (decide (n < -9999) || decide (9999 < n)) = true from by simpa using hc]
    repeat' first | apply W.seq | apply SQn | apply W.region | apply WO.nil | apply W.block | apply W.ret | apply W.exit | apply W.skip | apply SQr | apply SQe | apply BQn | apply BQr | apply BQe | (apply BQo; exact rfl) | apply LQe | apply LQr | (apply W.condT; exact rfl) | (apply W.condF; exact rfl) | (apply W.cond; exact rfl; all_goals intro _) | (apply WO.gT; exact rfl) | (apply WO.gF; exact rfl) | (apply WO.sT; exact rfl) | (apply WO.sF; exact rfl) | (apply WO.sU; exact rfl) | (apply WO.gtr; exact rfl; exact rfl; all_goals first | (intro _; exfalso; omega) | intro _) | (apply WO.neq; exact rfl; exact rfl; all_goals first | (intro _; exfalso; omega) | intro _) | (apply WO.pkT; exact rfl; exact rfl) | (apply WO.pkF; exact rfl; exact rfl) | (apply WO.add; exact rfl; exact rfl; omega) | (apply WO.remp; exact rfl; exact rfl; omega; intro _ _) | (apply WO.remn; exact rfl; exact rfl; omega; intro _ _) | (apply WO.quop; exact rfl; exact rfl; omega; omega; intro _ _) | (apply WO.quon; exact rfl; exact rfl; omega; omega; intro _ _) | (apply WO.rem; exact rfl; exact rfl; omega) | (apply WO.quo; exact rfl; exact rfl; omega; omega) | (apply WO.cll; exact rfl; exact rfl; first | exact ho _) | (apply WO.sneq; exact rfl; exact rfl; all_goals first | (intro h; exact absurd h (by decide)) | (intro h; exact absurd rfl h) | (intro h; contradiction) | intro _) | (apply WO.clb; exact rfl; exact rfl; exact rfl; all_goals first | (intro h; exact absurd h (by decide)) | intro _) | (apply WO.cll; exact rfl; exact rfl; exact rfl) | (apply WO.pl; exact rfl; exact rfl) | (apply WO.pp; exact rfl; exact rfl)
    exact ⟨.inr rfl, rfl, _, rfl, by rw [if_pos hc, if_pos hc]; rfl, rfl⟩
  · have ho : ∀ h, (mk0 TWind inv F).ext 95 [.int .i64 n, .int .i64 (-9999), .int .i64 9999] h = some ⟨.bool false, h, []⟩ := fun h => by
      show some _ = _
      rw [show (decide (n < -9999) || decide (9999 < n)) = false from by simp; omega]
    rcases Int.le_total 0 n with h0 | h0
    · repeat' first | apply W.seq | apply SQn | apply W.region | apply WO.nil | apply W.block | apply W.ret | apply W.exit | apply W.skip | apply SQr | apply SQe | apply BQn | apply BQr | apply BQe | (apply BQo; exact rfl) | apply LQe | apply LQr | (apply W.condT; exact rfl) | (apply W.condF; exact rfl) | (apply W.cond; exact rfl; all_goals intro _) | (apply WO.gT; exact rfl) | (apply WO.gF; exact rfl) | (apply WO.sT; exact rfl) | (apply WO.sF; exact rfl) | (apply WO.sU; exact rfl) | (apply WO.gtr; exact rfl; exact rfl; all_goals first | (intro _; exfalso; omega) | intro _) | (apply WO.neq; exact rfl; exact rfl; all_goals first | (intro _; exfalso; omega) | intro _) | (apply WO.pkT; exact rfl; exact rfl) | (apply WO.pkF; exact rfl; exact rfl) | (apply WO.add; exact rfl; exact rfl; omega) | (apply WO.remp; exact rfl; exact rfl; omega; intro _ _) | (apply WO.remn; exact rfl; exact rfl; omega; intro _ _) | (apply WO.quop; exact rfl; exact rfl; omega; omega; intro _ _) | (apply WO.quon; exact rfl; exact rfl; omega; omega; intro _ _) | (apply WO.rem; exact rfl; exact rfl; omega) | (apply WO.quo; exact rfl; exact rfl; omega; omega) | (apply WO.cll; exact rfl; exact rfl; first | exact ho _) | (apply WO.sneq; exact rfl; exact rfl; all_goals first | (intro h; exact absurd h (by decide)) | (intro h; exact absurd rfl h) | (intro h; contradiction) | intro _) | (apply WO.clb; exact rfl; exact rfl; exact rfl; all_goals first | (intro h; exact absurd h (by decide)) | intro _) | (apply WO.cll; exact rfl; exact rfl; exact rfl) | (apply WO.pl; exact rfl; exact rfl) | (apply WO.pp; exact rfl; exact rfl)
      all_goals refine ⟨.inr rfl, rfl, _, rfl, ?_, rfl⟩
      all_goals (rw [if_neg hc, if_neg hc]; simp only [tupA, AV.tup.injEq, List.cons.injEq, AV.int.injEq, true_and, and_true]; unfold wind; omega)
    · repeat' first | apply W.seq | apply SQn | apply W.region | apply WO.nil | apply W.block | apply W.ret | apply W.exit | apply W.skip | apply SQr | apply SQe | apply BQn | apply BQr | apply BQe | (apply BQo; exact rfl) | apply LQe | apply LQr | (apply W.condT; exact rfl) | (apply W.condF; exact rfl) | (apply W.cond; exact rfl; all_goals intro _) | (apply WO.gT; exact rfl) | (apply WO.gF; exact rfl) | (apply WO.sT; exact rfl) | (apply WO.sF; exact rfl) | (apply WO.sU; exact rfl) | (apply WO.gtr; exact rfl; exact rfl; all_goals first | (intro _; exfalso; omega) | intro _) | (apply WO.neq; exact rfl; exact rfl; all_goals first | (intro _; exfalso; omega) | intro _) | (apply WO.pkT; exact rfl; exact rfl) | (apply WO.pkF; exact rfl; exact rfl) | (apply WO.add; exact rfl; exact rfl; omega) | (apply WO.remp; exact rfl; exact rfl; omega; intro _ _) | (apply WO.remn; exact rfl; exact rfl; omega; intro _ _) | (apply WO.quop; exact rfl; exact rfl; omega; omega; intro _ _) | (apply WO.quon; exact rfl; exact rfl; omega; omega; intro _ _) | (apply WO.rem; exact rfl; exact rfl; omega) | (apply WO.quo; exact rfl; exact rfl; omega; omega) | (apply WO.cll; exact rfl; exact rfl; first | exact ho _) | (apply WO.sneq; exact rfl; exact rfl; all_goals first | (intro h; exact absurd h (by decide)) | (intro h; exact absurd rfl h) | (intro h; contradiction) | intro _) | (apply WO.clb; exact rfl; exact rfl; exact rfl; all_goals first | (intro h; exact absurd h (by decide)) | intro _) | (apply WO.cll; exact rfl; exact rfl; exact rfl) | (apply WO.pl; exact rfl; exact rfl) | (apply WO.pp; exact rfl; exact rfl)
      all_goals refine ⟨.inr rfl, rfl, _, rfl, ?_, rfl⟩
      all_goals (rw [if_neg hc, if_neg hc]; simp only [tupA, AV.tup.injEq, List.cons.injEq, AV.int.injEq, true_and, and_true]; unfold wind; omega)
theorem worth_time {v : Int} (h0 : 0 ≤ v) (h1 : v ≤ 863999999) : worth sTime v = -v := by
  unfold worth
  rw [if_pos rfl, show 0 - v = -v from by omega]
  exact i64_wrap (by omega)

theorem w34 {T : List (Nat × Spec)} (hft : F = FT) (k : List UInt8) (v : Int) (r : List UInt8) : Run (mk0 T inv F) 34 [mkM k v r] [] ⟨.bool (decide (k.length ≤ 40 ∧ r.length ≤ 40)), [], []⟩ := by
  refine run_of_W (show F 34 = _ from by rw [hft]; exact ft34) (by simp) ?_
  unfold b34
  simp only [List.map_cons, List.map_nil, List.getElem?_cons_zero, List.getElem?_cons_succ, List.getElem?_nil, Option.getD_some, Option.getD_none]
  repeat' first | apply W.seq | apply SQn | apply W.region | apply WO.nil | apply W.block | apply W.ret | apply W.exit | apply W.skip | apply SQr | apply SQe | apply BQn | apply BQr | apply BQe | (apply BQo; exact rfl) | apply LQe | apply LQr | (apply W.condT; exact rfl) | (apply W.condF; exact rfl) | (apply W.cond; exact rfl; all_goals intro _) | (apply WO.gT; exact rfl) | (apply WO.gF; exact rfl) | (apply WO.sT; exact rfl) | (apply WO.sF; exact rfl) | (apply WO.sU; exact rfl) | (apply WO.leq; exact rfl; exact rfl; all_goals first | (intro _; exfalso; omega) | intro _) | (apply WO.pkT; exact rfl; exact rfl) | (apply WO.pkF; exact rfl; exact rfl) | (apply WO.hlv; exact rfl; exact rfl; exact rfl) | (apply WO.hpv; exact rfl; exact rfl; exact rfl) | (apply WO.hnv; exact rfl; exact rfl; exact rfl) | (apply WO.pl; exact rfl; exact rfl) | (apply WO.pp; exact rfl; exact rfl)
  all_goals exact ⟨.inr rfl, rfl, _, rfl, congrArg AV.bool (by first | (rw [eq_comm, decide_eq_true_eq]; omega) | (rw [eq_comm, decide_eq_false_iff_not]; omega)), rfl⟩
end Go.Ab.Ch1


/-
  Own work: stadionlaw01.MarkChecks answers true.
-/
namespace Go.Ab.Ch1
variable {inv : InvF} {F : FuncId → Option IFunc}

def specAwake : Spec := fun
  | [], h => some ⟨.bool true, h, []⟩
  | _, _ => none
def specBrief : Spec := fun
  | [.agg [.str k, .int .i64 _, .str r]], h => some ⟨.bool (decide (k.length ≤ 40 ∧ r.length ≤ 40)), h, []⟩
  | _, _ => none
def specRound : Spec := fun
  | [.agg [.str k, .int .i64 v, .str r], .str c], h => some ⟨roundT k v r c, h, []⟩
  | _, _ => none
end Go.Ab.Ch1


/-
  Own work: stadionlaw01.MarkChecks answers true: the whole law.
-/
namespace Go.Ab.Ch1

end Go.Ab.Ch1


/-
  Own work: the contracts of marks as a table.
-/
namespace Go.Ab
variable {ks : List Nat} {N : Nat}
theorem Rn.aggL {l l0 : List AV} (h : RnL ks N l l0) : Rn ks N (.agg l) (.agg l0) := .agg h.1 h.2
end Go.Ab
namespace Go.Ab.Ch1
open Go.Proofs

theorem index185 : SpecOK Tryz.prog gl 185 specIndex := by
  intro xs h r hq
  unfold specIndex at hq
  split at hq
  · split at hq
    · rename_i l hl
      split at hq
      · rename_i hlen
        cases hq
        obtain ⟨S, cap, hf⟩ := (strsAt_sl hl).fr (fun _ => rfl)
        exact ent_run0 seat tab_nil (w185 (T := []) rfl l _ cap hlen) (.cons hf (.cons (.same rfl) .nil)) rfl (.inr rfl)
      · cases hq
    · cases hq
  · cases hq
theorem contains116 : SpecOK Tryz.prog gl 116 specContains := by
  intro xs h r hq
  unfold specContains at hq
  split at hq
  · split at hq
    · rename_i l hl
      split at hq
      · rename_i hlen
        cases hq
        obtain ⟨S, cap, hf⟩ := (strsAt_sl hl).fr (fun _ => rfl)
        exact ent_run0 seat (tab_cons index185 tab_nil) (w116 (T := []) rfl l _ cap hlen) (.cons hf (.cons (.same rfl) .nil)) rfl (.inr rfl)
      · cases hq
    · cases hq
  · cases hq
theorem reason112 : SpecOK Tryz.prog gl 112 specReason := by
  intro xs h r hq
  unfold specReason at hq
  split at hq
  · cases hq; exact ent_run0 seat (tab_cons contains116 tab_nil) (w112 (T := []) rfl _) (FrL.same rfl) rfl (.inl rfl)
  · cases hq
theorem reason109 : SpecOK Tryz.prog gl 109 specReason := by
  intro xs h r hq
  unfold specReason at hq
  split at hq
  · cases hq; exact ent_run0 seat tab_nil (w109 (T := []) rfl _) (FrL.same rfl) rfl (.inl rfl)
  · cases hq
theorem kinds113 : SpecOK Tryz.prog gl 113 specKinds := by
  intro xs h r hq
  unfold specKinds at hq
  split at hq
  · cases hq
    have hk : ∀ (i b : Nat), ([0, 1, 2, 3] : List Nat)[i]? = some b → Rn [0, 1, 2, 3] h.length (.map b) (.map (h.length + i)) := fun i b hi => .map hi
    refine ent_run seat tab_nil (w113 (T := []) rfl) (FrL.nil (S := [])) (ks := [0, 1, 2, 3]) (by decide) (.map (i := 0) rfl) rfl (fun i b o1 hi ho => ?_) (.inl rfl)
    match i, hi, ho with
    | 0, hi, ho =>
      cases hi; cases ho
      refine ⟨_, rfl, .map (.same rfl) ?_, .inl rfl⟩
      refine .cons (.aggL (.cons (.same rfl) (.cons (.same rfl) (.cons (.same rfl) (.cons (hk 1 1 rfl) (.cons (.same rfl) .nil)))))) (.cons (.aggL (.cons (.same rfl) (.cons (.same rfl) (.cons (.same rfl) (.cons (hk 2 2 rfl) (.cons (.same rfl) .nil)))))) (.cons (.aggL (.cons (.same rfl) (.cons (.same rfl) (.cons (.same rfl) (.cons (hk 3 3 rfl) (.cons (.same rfl) .nil)))))) .nil))
    | 1, hi, ho => cases hi; cases ho; exact ⟨_, rfl, .map (.same rfl) (.same rfl), .inl rfl⟩
    | 2, hi, ho => cases hi; cases ho; exact ⟨_, rfl, .map (.same rfl) (.same rfl), .inl rfl⟩
    | 3, hi, ho => cases hi; cases ho; exact ⟨_, rfl, .map (.same rfl) (.same rfl), .inl rfl⟩
  · cases hq
theorem out95 : SpecOK Tryz.prog gl 95 specOut := s95_ok

theorem chk36 : SpecOK Tryz.prog gl 36 specChk := by
  intro xs h r hq
  unfold specChk at hq
  split at hq
  · cases hq; exact ent_run0 seat (tab_cons kinds113 (tab_cons reason112 (tab_cons when97 (tab_cons first96 (tab_cons out95 tab_nil))))) (w36 rfl _ _ _) (FrL.same rfl) rfl (.inl rfl)
  · cases hq
theorem least110 : SpecOK Tryz.prog gl 110 (fun
  | [.str k], h => some ⟨.int .i64 (kLeast k), h, []⟩
  | _, _ => none) := by
  intro xs h r hq
  dsimp only at hq
  split at hq
  · cases hq; exact ent_run0 seat tab_nil (w110 (T := []) rfl _) (FrL.same rfl) rfl (.inl rfl)
  · cases hq
theorem most111 : SpecOK Tryz.prog gl 111 specMost := by
  intro xs h r hq
  unfold specMost at hq
  split at hq
  · cases hq; exact ent_run0 seat tab_nil (w111 (T := []) rfl _) (FrL.same rfl) rfl (.inl rfl)
  · cases hq
theorem chk35 : SpecOK Tryz.prog gl 35 specChk := by
  intro xs h r hq
  unfold specChk at hq
  split at hq
  · cases hq; exact ent_run0 seat (tab_cons reason109 (tab_cons least110 (tab_cons most111 tab_nil))) (w35 rfl _ _ _) (FrL.same rfl) rfl (.inl rfl)
  · cases hq
theorem worth184 : SpecOK Tryz.prog gl 184 specWorth := by
  intro xs h r hq
  unfold specWorth at hq
  split at hq
  · cases hq; exact ent_run0 seat (tab_cons kinds113 tab_nil) (w184 rfl _ _ _) (FrL.same rfl) rfl (.inl rfl)
  · cases hq
theorem cmp115 : SpecOK Tryz.prog gl 115 specCmp := by
  intro xs h r hq
  unfold specCmp at hq
  split at hq
  · cases hq; exact ent_run0 seat (tab_cons worth184 tab_nil) (w115 rfl _ _ _ _ _ _) (FrL.same rfl) rfl (.inl rfl)
  · cases hq
theorem differ114 : SpecOK Tryz.prog gl 114 specDiffer := by
  intro xs h r hq
  unfold specDiffer at hq
  split at hq
  · cases hq; exact ent_run0 seat tab_nil (w114 (T := []) rfl _ _ _ _ _ _) (FrL.same rfl) rfl (.inl rfl)
  · cases hq
theorem compare37 : SpecOK Tryz.prog gl 37 specCompare := by
  intro xs h r hq
  unfold specCompare at hq
  split at hq
  · cases hq; exact ent_run0 seat (tab_cons chk36 (tab_cons differ114 (tab_cons when97 (tab_cons first96 (tab_cons cmp115 tab_nil))))) (w37 rfl _ _ _ _ _ _) (FrL.same rfl) rfl (.inl rfl)
  · cases hq
theorem round40 : SpecOK Tryz.prog gl 40 specRound := by
  intro xs h r hq
  unfold specRound at hq
  split at hq
  · cases hq; exact ent_run0 seat (tab_cons chk36 (tab_cons contains116 (tab_cons kinds113 tab_nil))) (w40 rfl _ _ _ _) (FrL.same rfl) rfl (.inl rfl)
  · cases hq
theorem step69 : SpecOK Tryz.prog gl 69 specStep := by
  intro xs h r hq
  unfold specStep at hq
  split at hq
  · cases hq; exact ent_run0 seat tab_nil (w69 (T := []) rfl _) (FrL.same rfl) rfl (.inl rfl)
  · cases hq
theorem wind42 : SpecOK Tryz.prog gl 42 specWind := by
  intro xs h r hq
  unfold specWind at hq
  split at hq
  · cases hq; exact ent_run0 seat (tab_cons out95 tab_nil) (w42 rfl _) (FrL.same rfl) rfl (.inl rfl)
  · cases hq
theorem brief34 : SpecOK Tryz.prog gl 34 specBrief := by
  intro xs h r hq
  unfold specBrief at hq
  split at hq
  · cases hq; exact ent_run0 seat tab_nil (w34 (T := []) rfl _ _ _) (FrL.same rfl) rfl (.inl rfl)
  · cases hq
theorem awake18 : SpecOK Tryz.prog gl 18 specAwake := by
  intro xs h r hq
  unfold specAwake at hq
  split at hq
  · exact s18_ok _ _ _ hq
  · cases hq
end Go.Ab.Ch1


namespace Go.Ab.Ch1

/-- What rounding gives, if it gives a mark. -/
theorem round_facts {k c : List UInt8} {v : Int} (hk : k = sTime ∨ k = sLength) (hv : chk k v [] = 0) (he : roundE k v [] c = 0) :
    ∃ s x, stepS c = s ∧ stepOf k c = s ∧ (s = 1 ∨ s = 10 ∨ s = 100 ∨ s = 1000) ∧ x = roundV k s v ∧ roundT k v [] c = .tup [mkM k x [], .int .i64 0] ∧ x % s = 0 ∧ kLeast k ≤ v ∧ v ≤ kMost k ∧ kLeast k ≤ x ∧ x ≤ kMost k ∧
      ((k = sTime ∧ 0 ≤ x - v ∧ x - v < s) ∨ (k = sLength ∧ 0 ≤ v - x ∧ v - x < s)) := by
  have hc := chk_zero hv
  have hne : k ≠ sNone := by rcases hk with rfl | rfl <;> decide
  obtain ⟨_, _, _, h0, h1⟩ := hc.resolve_left fun h => hne h.1
  have hT : roundT k v [] c = .tup [mkM k (roundV k (stepOf k c) v) [], .int .i64 0] := by
    simp only [roundT, roundK, roundR, roundN, he, ne_eq, not_true_eq_false, if_false, if_neg hne]
  have he' := he
  unfold roundE at he'
  rw [if_neg (by simpa using hv), if_neg hne] at he'
  split at he'
  · cases he'
  rename_i hs0
  split at he'
  · cases he'
  rename_i hmx
  have key : (stepS c = stepOf k c) ∧ (stepOf k c = 1 ∨ stepOf k c = 10 ∨ stepOf k c = 100 ∨ stepOf k c = 1000) := by
    rcases class_cases c with rfl | rfl | rfl | rfl | ⟨c1, c2, c3, c4⟩ <;> rcases hk with rfl | rfl
    all_goals first | decide | (exfalso; revert hs0; decide) | (exfalso; apply hs0; simp [stepOf, c1, c2, c3, c4]; try decide)
  refine ⟨stepOf k c, _, key.1, rfl, key.2, rfl, hT, ?_, h0, h1, ?_, by omega, ?_⟩
  · have := key.2
    unfold roundV
    rcases hk with rfl | rfl <;> rcases this with h | h | h | h <;> rw [h] <;> simp (decide := true) <;> omega
  · have := key.2
    rcases hk with rfl | rfl <;> rcases this with h | h | h | h <;> rw [h] <;> simp (decide := true) [kLeast, roundV] at h0 ⊢ <;> omega
  · have := key.2
    rcases hk with rfl | rfl
    · refine .inl ⟨rfl, ?_⟩
      rcases this with h | h | h | h <;> rw [h] <;> simp (decide := true) [roundV] <;> omega
    · refine .inr ⟨rfl, ?_⟩
      rcases this with h | h | h | h <;> rw [h] <;> simp (decide := true) [roundV] <;> omega

theorem chk_of {k : List UInt8} {x : Int} (hk : k = sTime ∨ k = sLength) (h0 : kLeast k ≤ x) (h1 : x ≤ kMost k) : chk k x [] = 0 := by
  have h : ¬ (x < kLeast k ∨ kMost k < x) := by omega
  unfold chk
  rcases hk with rfl | rfl <;> rw [if_neg (by decide), if_neg (by decide), if_neg (by decide), if_neg h]

theorem round_again {k c : List UInt8} {s x : Int} (hk : k = sTime ∨ k = sLength) (hs : stepOf k c = s) (hs4 : s = 1 ∨ s = 10 ∨ s = 100 ∨ s = 1000) (hx : x % s = 0) (h0 : kLeast k ≤ x) (h1 : x ≤ kMost k) : roundT k x [] c = .tup [mkM k x [], .int .i64 0] := by
  have hne : k ≠ sNone := by rcases hk with rfl | rfl <;> decide
  have hv : roundV k s x = x := by
    unfold roundV
    rcases hk with rfl | rfl <;> rcases hs4 with rfl | rfl | rfl | rfl <;> simp (decide := true) <;> omega
  have he : roundE k x [] c = 0 := by
    unfold roundE
    rw [if_neg (by simpa using chk_of hk h0 h1), if_neg hne, hs, if_neg (by omega), hv, if_neg (by omega)]
  simp only [roundT, roundK, roundR, roundN, he, ne_eq, not_true_eq_false, if_false, if_neg hne, hs, hv]

theorem worth_len {v : Int} : worth sLength v = v := by
  unfold worth
  rw [if_neg (by decide), if_pos (by decide)]

theorem cmp_facts {k : List UInt8} {s v v' x y : Int} (hk : k = sTime ∨ k = sLength) (hs4 : s = 1 ∨ s = 10 ∨ s = 100 ∨ s = 1000) (hx : x = roundV k s v) (hy : y = roundV k s v')
    (a0 : kLeast k ≤ v) (a1 : v ≤ kMost k) (b0 : kLeast k ≤ v') (b1 : v' ≤ kMost k) (c0 : kLeast k ≤ x) (c1 : x ≤ kMost k) (d0 : kLeast k ≤ y) (d1 : y ≤ kMost k) :
    (cmpW (worth k x) (worth k v) = 0 ∨ cmpW (worth k x) (worth k v) = 1) ∧
    ((cmpW (worth k v) (worth k v') = -1 ∧ (cmpW (worth k x) (worth k y) = -1 ∨ cmpW (worth k x) (worth k y) = 0)) ∨ (cmpW (worth k v) (worth k v') = 0 ∧ cmpW (worth k x) (worth k y) = 0) ∨ (cmpW (worth k v) (worth k v') = 1 ∧ (cmpW (worth k x) (worth k y) = 1 ∨ cmpW (worth k x) (worth k y) = 0))) := by
  rcases hk with rfl | rfl
  · simp (decide := true) only [kLeast, kMost, if_true, if_false] at a0 a1 b0 b1 c0 c1 d0 d1
    rw [worth_time (by omega) (by omega), worth_time (by omega) (by omega), worth_time (by omega) (by omega), worth_time (by omega) (by omega)]
    simp (decide := true) only [roundV, if_true] at hx hy
    unfold cmpW
    rcases hs4 with rfl | rfl | rfl | rfl <;> constructor <;> (repeat' split) <;> omega
  · simp only [worth_len]
    simp (decide := true) only [roundV, if_false] at hx hy
    unfold cmpW
    rcases hs4 with rfl | rfl | rfl | rfl <;> constructor <;> (repeat' split) <;> omega

end Go.Ab.Ch1

