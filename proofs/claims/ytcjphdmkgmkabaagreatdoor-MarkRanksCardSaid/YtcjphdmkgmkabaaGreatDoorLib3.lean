/-
  Own work: the resolved code of some functions of chapter 1.
-/
import Derived.Test.YtcjphdmkgmkabaaGreatDoorCh1Base
import Derived.Test.YtcjphdmkgmkabaaGreatDoorLib2
import Derived.Test.YtcjphdmkgmkabaaGreatDoorCh1Row
import Derived.IntWalk
import Derived.Sort.AssemblyPlain
namespace Go.Ab.Ch1
set_option maxRecDepth 1000000
/-- stadion/mark.outside -/
def b95 : ICode :=
 .seq (.region [⟨(.p 3), .mv (.c (.bool false)), none⟩])
  (.seq (.region [⟨(.l 7), .mv (.p 0), none⟩,
     ⟨(.l 8), .mv (.p 1), none⟩,
     ⟨(.l 9), .bin .lss (.l 7) (.l 8), none⟩,
     ⟨(.l 10), .mv (.l 9), none⟩,
     ⟨(.l 11), .mv (.p 0), some ((.l 10), false)⟩,
     ⟨(.l 12), .mv (.p 2), some ((.l 10), false)⟩,
     ⟨(.l 13), .bin .gtr (.l 11) (.l 12), some ((.l 10), false)⟩,
     ⟨(.l 14), .pick (.l 10) (.c (.bool true)) (.l 13), none⟩,
     ⟨(.p 3), .mv (.l 14), none⟩])
   (.ret))
theorem ft95 : FT 95 = some ⟨15, [0, 1, 2, 6], [.var (.p 3)], b95⟩ := by kernel_rfl

end Go.Ab.Ch1


/-
  Own work: plain facts of drawn orders: an exchange after the other gives an order of the same elements; its last place and the rest.
-/
namespace Go.Ab

end Go.Ab


/-
  Own work: mark.Draw, mark.outside, stadionref01.CheckDraw: what they compute.
-/
namespace Go.Ab.Ch1
open Go.Proofs.Tryz
variable {M : Mach}

theorem w95 (hft : M.FT = FT) (x lo hi : Int) : Run M 95 [.int .i64 x, .int .i64 lo, .int .i64 hi] [] ⟨.bool (decide (x < lo) || decide (hi < x)), [], []⟩ := by
  refine run_of_W (by rw [hft]; exact ft95) (by simp) ?_
  unfold b95
  repeat' first | apply W.seq | apply SQn | apply W.region | apply WO.nil | apply W.block | apply W.ret | apply W.exit | apply W.skip | apply SQr | apply SQe | apply BQn | apply BQr | apply BQe | (apply BQo; exact rfl) | apply LQe | apply LQr | (apply W.condT; exact rfl) | (apply W.condF; exact rfl) | (apply W.cond; exact rfl; all_goals intro _) | (apply WO.gT; exact rfl) | (apply WO.gF; exact rfl) | (apply WO.sT; exact rfl) | (apply WO.sF; exact rfl) | (apply WO.sU; exact rfl) | (apply WO.lss; exact rfl; exact rfl; all_goals first | (intro _; exfalso; omega) | intro _) | (apply WO.gtr; exact rfl; exact rfl; all_goals first | (intro _; exfalso; omega) | intro _) | (apply WO.pkT; exact rfl; exact rfl) | (apply WO.pkF; exact rfl; exact rfl) | (apply WO.pl; exact rfl; exact rfl) | (apply WO.pp; exact rfl; exact rfl)
  all_goals exact ⟨.inr rfl, rfl, _, rfl, by simp [tupA, *]; try omega, by simp [AV.top]⟩

end Go.Ab.Ch1


/-
  Own work: contracts of chapter 1 as a table.
-/
namespace Go.Ab
open Go.ChangeShapes Go.WideShapes Go.RowKit
variable {P : Program} {gl : Nat → Option AV}

theorem mach_ft {FT : FuncId → Option IFunc} {T : List (Nat × Spec)} : (mach P FT T).FT = FT := rfl
theorem mach_ext {FT : FuncId → Option IFunc} {T : List (Nat × Spec)} : (mach P FT T).ext = extS T := rfl

/-- A law that answers true, as the kit's contract. -/
theorem calls_true {FT : FuncId → Option IFunc} (hs : Seat P gl FT) {T : List (Nat × Spec)} (hT : ExtOK P gl (extS T)) {f : Nat} {xs : List AV} {w : World} (hr : Run (mach P FT T) f xs [] ⟨.bool true, [], []⟩)
    (hgl : ∀ g v, gl g = some v → V bare w v (.pointer (some ⟨g, 0, none⟩))) {as' : List Value} (hv : VL bare w xs as') : Calls P f as'.toArray w fun e w' => e = .returned (.bool true) ∧ Below w.heap.size w w' := by
  obtain ⟨n, hn⟩ := hr
  refine (calls_of_run hs.mix hT hs.ft hn hgl hv).mono fun e w' he => ?_
  obtain ⟨v', h1, ⟨ρ', h2⟩, h3⟩ := he
  cases h2
  exact ⟨h1, below_of h3⟩
end Go.Ab
namespace Go.Ab.Ch1
open Go.Proofs

def s18 : Spec := spec0 [] (.bool true)
theorem s18_ok : SpecOK Tryz.prog gl 18 s18 := spec0_ok gl_top rfl rfl o22
def s95 : Spec := fun
  | [.int .i64 x, .int .i64 lo, .int .i64 hi], h => some ⟨.bool (decide (x < lo) || decide (hi < x)), h, []⟩
  | _, _ => none
theorem s95_ok : SpecOK Tryz.prog gl 95 s95 := by
  intro xs h r hq
  unfold s95 at hq
  split at hq
  · cases hq
    exact ent_run0 seat tab_nil (w95 (M := mach Tryz.prog FT []) mach_ft _ _ _) (FrL.same rfl) rfl (.inl rfl)
  · cases hq

theorem ints_top (l : List Int) : topL (ints l) = 0 := topL_arr (fun _ => rfl) l
end Go.Ab.Ch1


/-
  Own work: the resolved code of some functions of chapter 1: first, when.
-/
namespace Go.Ab.Ch1
set_option maxRecDepth 1000000
/-- stadion/mark.when -/
def b97 : ICode :=
 .seq (.region [⟨(.p 2), .mv (.c (.int .i64 (0))), none⟩])
  (.seq (.seq (.region [⟨(.l 5), .mv (.p 0), none⟩])
    (.cond (.l 5)
     (.seq (.region [⟨(.l 6), .mv (.p 1), none⟩,
        ⟨(.p 2), .mv (.l 6), none⟩])
      (.ret))
     (.skip)))
   (.seq (.region [⟨(.p 2), .mv (.c (.int .i64 (0))), none⟩])
    (.ret)))
theorem ft97 : FT 97 = some ⟨7, [0, 1, 4], [.var (.p 2)], b97⟩ := by kernel_rfl

def b96_0 : ICode :=
 .seq (.region [⟨(.l 8), .bin .lss (.p 5) (.p 4), none⟩])
  (.seq (.cond (.l 8)
    (.skip)
    (.exit 0))
   (.seq (.block 1
     (.seq (.region [⟨(.l 9), .iaddr none 1 (.p 3) (.p 5), none⟩,
        ⟨(.l 10), .load 1 false (.l 9), none⟩,
        ⟨(.p 2), .mv (.l 10), none⟩])
      (.seq (.region [⟨(.l 11), .mv (.p 2), none⟩,
         ⟨(.l 12), .bin .neq (.l 11) (.c (.int .i64 (0))), none⟩])
       (.cond (.l 12)
        (.seq (.region [⟨(.l 13), .mv (.p 2), none⟩,
           ⟨(.p 1), .mv (.l 13), none⟩])
         (.ret))
        (.skip)))))
    (.region [⟨(.l 14), .bin .add (.p 5) (.c (.int .i64 (1))), none⟩,
      ⟨(.p 5), .mv (.l 14), none⟩])))
/-- stadion/mark.first -/
def b96 : ICode :=
 .seq (.region [⟨(.p 1), .mv (.c (.int .i64 (0))), none⟩])
  (.seq (.seq (.region [⟨(.p 3), .mv (.p 0), none⟩,
      ⟨(.p 4), .len .sl (.p 3), none⟩,
      ⟨(.p 5), .mv (.c (.int .i64 (0))), none⟩])
    (.block 0
     (.loop b96_0)))
   (.seq (.region [⟨(.p 1), .mv (.c (.int .i64 (0))), none⟩])
    (.ret)))
theorem ft96 : FT 96 = some ⟨15, [0, 2, 4, 5, 6, 7], [.var (.p 1)], b96⟩ := by kernel_rfl

end Go.Ab.Ch1


/-
  Own work: first and when of chapter 1.
-/
namespace Go.Ab.Ch1
variable {inv : InvF} {F : FuncId → Option IFunc}

abbrev mk0 (T : List (Nat × Spec)) (inv : InvF) (F : FuncId → Option IFunc) : Mach := ⟨extS T, inv, F⟩

theorem ext_hd {g : Nat} {sp : Spec} {T : List (Nat × Spec)} {xs : List AV} {h : Heap} : extS ((g, sp) :: T) g xs h = sp xs h := by simp [extS]

def firstNZ : List Int → Int
  | [] => 0
  | e :: r => if e = 0 then firstNZ r else e

def specWhen : Spec := fun
  | [.bool t, .int .i64 e], h => some ⟨.int .i64 (if t then e else 0), h, []⟩
  | _, _ => none
def specFirst : Spec := fun
  | [v], h => match intsAt h v with
    | some l => if l.length < 4611686018427387904 then some ⟨.int .i64 (firstNZ l), h, []⟩ else none
    | none => none
  | _, _ => none

theorem w97 {T : List (Nat × Spec)} (hft : F = FT) (t : Bool) (e : Int) : Run (mk0 T inv F) 97 [.bool t, .int .i64 e] [] ⟨.int .i64 (if t then e else 0), [], []⟩ := by
  refine run_of_W (show F 97 = _ from by rw [hft]; exact ft97) (by simp) ?_
  unfold b97
  simp only [List.map_cons, List.map_nil, List.getElem?_cons_zero, List.getElem?_cons_succ, List.getElem?_nil, Option.getD_some, Option.getD_none]
  cases t
  all_goals
    repeat' first | apply W.seq | apply SQn | apply W.region | apply WO.nil | apply W.block | apply W.ret | apply W.exit | apply W.skip | apply SQr | apply SQe | apply BQn | apply BQr | apply BQe | (apply BQo; exact rfl) | apply LQe | apply LQr | (apply W.condT; exact rfl) | (apply W.condF; exact rfl) | (apply W.cond; exact rfl; all_goals intro _) | (apply WO.pl; exact rfl; exact rfl) | (apply WO.pp; exact rfl; exact rfl)
  all_goals exact ⟨.inr rfl, rfl, _, rfl, rfl, rfl⟩

theorem firstNZ_drop {l : List Int} {i : Nat} (h : i < l.length) : firstNZ (l.drop i) = if l[i]! = 0 then firstNZ (l.drop (i + 1)) else l[i]! := by
  rw [List.drop_eq_getElem_cons h, getElem!_pos l i h, firstNZ]

theorem body96 {T : List (Nat × Spec)} (l : List Int) (cap : Option Nat) (a0 : AV) (hl : l.length < 4611686018427387904) (hp : Heap) (df : List Nat) {Q : Ex → StW → Prop} : ∀ (r i : Nat), i + r = l.length → ∀ (a1 a2 : AV) (lo : List (Nat × AV)) (wr : List Nat),
    (firstNZ (l.drop i) = 0 → ∀ a2 lo wr, Q (.exit 0) ⟨⟨[a0, a1, a2, .vs (ints l) l.length cap, .int .i64 l.length, .int .i64 l.length], lo, hp, df⟩, wr⟩) →
    (∀ a2 a5 lo wr, Q .ret ⟨⟨[a0, .int .i64 (firstNZ (l.drop i)), a2, .vs (ints l) l.length cap, .int .i64 l.length, a5], lo, hp, df⟩, wr⟩) →
    W (mk0 T inv F) (.loop b96_0) ⟨⟨[a0, a1, a2, .vs (ints l) l.length cap, .int .i64 l.length, .int .i64 i], lo, hp, df⟩, wr⟩ Q
  | 0, i, hi, a1, a2, lo, wr, h1, h2 => by
    obtain rfl : i = l.length := by omega
    refine W.loop ?_
    unfold b96_0
    repeat' first | apply W.seq | apply SQn | apply W.region | apply WO.nil | apply W.block | apply W.ret | apply W.exit | apply W.skip | apply SQr | apply SQe | apply BQn | apply BQr | apply BQe | (apply BQo; exact rfl) | apply LQe | apply LQr | (apply W.condT; exact rfl) | (apply W.condF; exact rfl) | (apply W.cond; exact rfl; all_goals intro _) | (apply WO.lss; exact rfl; exact rfl; all_goals first | (intro _; exfalso; omega) | intro _) | (apply WO.neq; exact rfl; exact rfl; all_goals first | (intro _; exfalso; omega) | intro _) | (apply WO.add; exact rfl; exact rfl; omega) | (apply WO.iav; exact rfl; exact rfl; omega) | (apply WO.ias; exact rfl; exact rfl; omega) | (apply WO.lda; exact rfl; exact fun _ => rfl; (first | omega | (simp only [List.length_set]; omega) | (simp; omega)); decide; exact rfl; case ia => infer_instance) | (apply WO.lsa; exact rfl; (first | exact rfl | assumption | exact at_new | (apply at_old; assumption) | (apply at_put; first | assumption | (simp only [put_length]; assumption))); exact fun _ => rfl; (first | omega | (simp only [List.length_set]; omega) | (simp; omega)); decide; exact rfl; case ia => infer_instance) | (apply WO.sneq; exact rfl; exact rfl; all_goals first | (intro h; exact absurd h (by decide)) | (intro h; exact absurd rfl h) | (intro h; contradiction) | intro _) | (apply WO.hlv; exact rfl; exact rfl; exact rfl) | (apply WO.hpv; exact rfl; exact rfl; exact rfl) | (apply WO.hnv; exact rfl; exact rfl; exact rfl) | (apply WO.pl; exact rfl; exact rfl) | (apply WO.pp; exact rfl; exact rfl)
    exact h1 (by simp [firstNZ]) _ _ _
  | r + 1, i, hi, a1, a2, lo, wr, h1, h2 => by
    have e := firstNZ_drop (l := l) (i := (i : Int).toNat) (by omega)
    rw [Int.toNat_natCast] at e
    refine W.loop ?_
    unfold b96_0
    repeat' first | apply W.seq | apply SQn | apply W.region | apply WO.nil | apply W.block | apply W.ret | apply W.exit | apply W.skip | apply SQr | apply SQe | apply BQn | apply BQr | apply BQe | (apply BQo; exact rfl) | apply LQe | apply LQr | (apply W.condT; exact rfl) | (apply W.condF; exact rfl) | (apply W.cond; exact rfl; all_goals intro _) | (apply WO.lss; exact rfl; exact rfl; all_goals first | (intro _; exfalso; omega) | intro _) | (apply WO.neq; exact rfl; exact rfl; all_goals first | (intro _; exfalso; omega) | intro _) | (apply WO.add; exact rfl; exact rfl; omega) | (apply WO.iav; exact rfl; exact rfl; omega) | (apply WO.ias; exact rfl; exact rfl; omega) | (apply WO.lda; exact rfl; exact fun _ => rfl; (first | omega | (simp only [List.length_set]; omega) | (simp; omega)); decide; exact rfl; case ia => infer_instance) | (apply WO.lsa; exact rfl; (first | exact rfl | assumption | exact at_new | (apply at_old; assumption) | (apply at_put; first | assumption | (simp only [put_length]; assumption))); exact fun _ => rfl; (first | omega | (simp only [List.length_set]; omega) | (simp; omega)); decide; exact rfl; case ia => infer_instance) | (apply WO.sneq; exact rfl; exact rfl; all_goals first | (intro h; exact absurd h (by decide)) | (intro h; exact absurd rfl h) | (intro h; contradiction) | intro _) | (apply WO.hlv; exact rfl; exact rfl; exact rfl) | (apply WO.hpv; exact rfl; exact rfl; exact rfl) | (apply WO.hnv; exact rfl; exact rfl; exact rfl) | (apply WO.pl; exact rfl; exact rfl) | (apply WO.pp; exact rfl; exact rfl)
    · rename_i hne
      rw [Int.toNat_natCast] at hne
      rw [if_neg hne] at e
      rw [e] at h2
      exact h2 _ _ _ _
    · rename_i he
      rw [Int.toNat_natCast] at he
      rw [if_pos he] at e
      rw [e] at h1 h2
      exact LQn (body96 l cap a0 hl hp df r (i + 1) (by omega) _ _ _ _ h1 h2)
theorem w96 {T : List (Nat × Spec)} (hft : F = FT) (l : List Int) (cap : Option Nat) (hl : l.length < 4611686018427387904) : Run (mk0 T inv F) 96 [.vs (ints l) l.length cap] [] ⟨.int .i64 (firstNZ l), [], []⟩ := by
  refine run_of_W (show F 96 = _ from by rw [hft]; exact ft96) (by simp) ?_
  unfold b96
  simp only [List.map_cons, List.map_nil, List.getElem?_cons_zero, List.getElem?_cons_succ, List.getElem?_nil, Option.getD_some, Option.getD_none]
  repeat' first | apply W.seq | apply SQn | apply W.region | apply WO.nil | apply W.block | apply W.ret | apply W.exit | apply W.skip | apply SQr | apply SQe | apply BQn | apply BQr | apply BQe | (apply BQo; exact rfl) | apply LQe | apply LQr | (apply W.condT; exact rfl) | (apply W.condF; exact rfl) | (apply W.cond; exact rfl; all_goals intro _) | (apply WO.pl; exact rfl; exact rfl) | (apply WO.pp; exact rfl; exact rfl)
  refine body96 l cap _ hl _ _ l.length 0 (by omega) _ _ _ _ (fun h a2 lo wr => ?_) (fun a2 a5 lo wr => ?_)
  · repeat' first | apply W.seq | apply SQn | apply W.region | apply WO.nil | apply W.block | apply W.ret | apply W.exit | apply W.skip | apply SQr | apply SQe | apply BQn | apply BQr | apply BQe | (apply BQo; exact rfl) | apply LQe | apply LQr | (apply W.condT; exact rfl) | (apply W.condF; exact rfl) | (apply W.cond; exact rfl; all_goals intro _) | (apply WO.pl; exact rfl; exact rfl) | (apply WO.pp; exact rfl; exact rfl)
    exact ⟨.inr rfl, rfl, _, rfl, by rw [List.drop_zero] at h; rw [h]; rfl, rfl⟩
  · repeat' first | apply W.seq | apply SQn | apply W.region | apply WO.nil | apply W.block | apply W.ret | apply W.exit | apply W.skip | apply SQr | apply SQe | apply BQn | apply BQr | apply BQe | (apply BQo; exact rfl) | apply LQe | apply LQr | (apply W.condT; exact rfl) | (apply W.condF; exact rfl) | (apply W.cond; exact rfl; all_goals intro _) | (apply WO.pl; exact rfl; exact rfl) | (apply WO.pp; exact rfl; exact rfl)
    exact ⟨.inr rfl, rfl, _, rfl, rfl, rfl⟩

end Go.Ab.Ch1


/-
  Own work: the contracts of first and when as a table.
-/
namespace Go.Ab.Ch1
open Go.Proofs

theorem when97 : SpecOK Tryz.prog gl 97 specWhen := by
  intro xs h r hq
  unfold specWhen at hq
  split at hq
  · cases hq; exact ent_run0 seat tab_nil (w97 (T := []) rfl _ _) (FrL.same rfl) rfl (.inl rfl)
  · cases hq
theorem first_ok {f : Nat} (hw : ∀ (l : List Int) cap, l.length < 4611686018427387904 → Run (mach Tryz.prog FT []) f [.vs (ints l) l.length cap] [] ⟨.int .i64 (firstNZ l), [], []⟩) : SpecOK Tryz.prog gl f specFirst := by
  intro xs h r hq
  unfold specFirst at hq
  split at hq
  · split at hq
    · rename_i l hl
      split at hq
      · rename_i hlen
        cases hq
        obtain ⟨S, cap, hf⟩ := (intsAt_sl hl).fr (fun _ => rfl)
        exact ent_run0 seat tab_nil (hw l cap hlen) (.cons hf .nil) rfl (.inr rfl)
      · cases hq
    · cases hq
  · cases hq
theorem first96 : SpecOK Tryz.prog gl 96 specFirst := first_ok fun l cap h => w96 (T := []) rfl l cap h
end Go.Ab.Ch1


/-
  Own work: the resolved code of some functions of chapter 1: marks.
-/
namespace Go.Ab.Ch1
set_option maxRecDepth 1000000
/-- stadion/mark.CheckMark -/
def b36 : ICode :=
 .seq (.region [⟨(.p 1), .box 49 3 (.p 0), none⟩,
    ⟨(.p 2), .mv (.c (.int .i64 (0))), none⟩])
  (.seq (.seq (.region [⟨(.l 5), .faddr 0 (.p 1), none⟩,
      ⟨(.l 6), .load 1 false (.l 5), none⟩,
      ⟨(.l 7), .bin .eql (.l 6) (.c (.str [110, 111, 110, 101])), none⟩])
    (.cond (.l 7)
     (.seq (.draw [(⟨(.l 8), .faddr 2 (.p 1), none⟩, []),
        (⟨(.l 9), .load 1 false (.l 8), none⟩, []),
        (⟨(.l 10), .call (.c (.fn (.func 112) [] [])) [(.l 9)], none⟩, []),
        (⟨(.l 11), .un .not (.l 10), none⟩, []),
        (⟨(.l 12), .call (.c (.fn (.func 97) [] [])) [(.l 11), (.c (.int .i64 (1)))], none⟩, []),
        (⟨(.l 13), .faddr 1 (.p 1), none⟩, [0, 1, 2, 3, 4]),
        (⟨(.l 14), .load 1 false (.l 13), none⟩, [0, 1, 2, 3, 4]),
        (⟨(.l 15), .bin .neq (.l 14) (.c (.int .i64 (0))), none⟩, [0, 1, 2, 3, 4]),
        (⟨(.l 16), .call (.c (.fn (.func 97) [] [])) [(.l 15), (.c (.int .i64 (3)))], none⟩, []),
        (⟨(.l 17), .bslice 25 2 1 [.int .i64 (0)] [(0, 1, (.l 12)), (1, 1, (.l 16))], none⟩, []),
        (⟨(.l 18), .call (.c (.fn (.func 96) [] [])) [(.l 17)], none⟩, []),
        (⟨(.p 2), .mv (.l 18), none⟩, [])])
      (.ret))
     (.skip)))
   (.seq (.draw [(⟨(.l 20), .call (.c (.fn (.func 113) [] [])) [], none⟩, []),
      (⟨(.l 21), .faddr 0 (.p 1), none⟩, [0]),
      (⟨(.l 22), .load 1 false (.l 21), none⟩, [0]),
      (⟨(.l 23), .lookup .str (.agg [.int .i64 (0), .int .i64 (0), .bool false, .nilmap, .nilfn]) (.l 20) (.l 22) true, none⟩, []),
      (⟨(.l 19), .mv (.l 23), none⟩, []),
      (⟨(.l 24), .extract 0 (.l 19), none⟩, []),
      (⟨(.l 25), .extract 1 (.l 19), none⟩, [5]),
      (⟨(.p 3), .alloc 141 [.int .i64 (0), .int .i64 (0), .bool false, .nilmap, .nilfn], none⟩, [0, 1, 2, 3, 4, 5, 6]),
      (⟨.no, .store 5 (.p 3) (.l 24), none⟩, [6]),
      (⟨(.p 4), .mv (.l 25), none⟩, [])])
    (.seq (.draw [(⟨(.l 26), .mv (.p 4), none⟩, []),
       (⟨(.l 27), .un .not (.l 26), none⟩, []),
       (⟨(.l 28), .call (.c (.fn (.func 97) [] [])) [(.l 27), (.c (.int .i64 (13)))], none⟩, []),
       (⟨(.l 29), .faddr 2 (.p 1), none⟩, [0, 1, 2]),
       (⟨(.l 30), .load 1 false (.l 29), none⟩, [0, 1, 2]),
       (⟨(.l 31), .bin .neq (.l 30) (.c (.str [])), none⟩, [0, 1, 2]),
       (⟨(.l 32), .call (.c (.fn (.func 97) [] [])) [(.l 31), (.c (.int .i64 (1)))], none⟩, []),
       (⟨(.l 33), .faddr 1 (.p 1), none⟩, [0, 1, 2, 3, 4, 5, 6]),
       (⟨(.l 34), .load 1 false (.l 33), none⟩, [0, 1, 2, 3, 4, 5, 6]),
       (⟨(.l 35), .faddr 0 (.p 3), none⟩, [0, 1, 2, 3, 4, 5, 6, 7, 8]),
       (⟨(.l 36), .load 1 false (.l 35), none⟩, [0, 1, 2, 3, 4, 5, 6, 7, 8]),
       (⟨(.l 37), .faddr 1 (.p 3), none⟩, [0, 1, 2, 3, 4, 5, 6, 7, 8, 9, 10]),
       (⟨(.l 38), .load 1 false (.l 37), none⟩, [0, 1, 2, 3, 4, 5, 6, 7, 8, 9, 10]),
       (⟨(.l 39), .call (.c (.fn (.func 95) [] [])) [(.l 34), (.l 36), (.l 38)], none⟩, []),
       (⟨(.l 40), .call (.c (.fn (.func 97) [] [])) [(.l 39), (.c (.int .i64 (3)))], none⟩, []),
       (⟨(.l 41), .bslice 25 3 1 [.int .i64 (0)] [(0, 1, (.l 28)), (1, 1, (.l 32)), (2, 1, (.l 40))], none⟩, []),
       (⟨(.l 42), .call (.c (.fn (.func 96) [] [])) [(.l 41)], none⟩, []),
       (⟨(.p 2), .mv (.l 42), none⟩, [])])
     (.ret))))
theorem ft36 : FT 36 = some ⟨43, [0, 1, 2, 3, 4], [.var (.p 2)], b36⟩ := by kernel_rfl

/-- stadion/mark.kinds -/
def b113 : ICode :=
 .seq (.region [⟨(.p 0), .mv (.c (.nilmap)), none⟩])
  (.seq (.region [⟨(.l 1), .mkmap, none⟩,
     ⟨(.l 2), .mkmap, none⟩,
     ⟨.no, .mapset .str (.l 2) (.c (.str [101, 120, 97, 99, 116])) (.c (.int .i64 (1))), none⟩,
     ⟨.no, .mapset .str (.l 2) (.c (.str [104, 117, 110, 100, 114, 101, 100, 116, 104, 115])) (.c (.int .i64 (100))), none⟩,
     ⟨.no, .mapset .str (.l 2) (.c (.str [116, 101, 110, 116, 104, 115])) (.c (.int .i64 (1000))), none⟩,
     ⟨(.l 3), .mv (.l 2), none⟩,
     ⟨(.l 4), .build [.int .i64 (0), .int .i64 (0), .bool false, .nilmap, .nilfn] [(0, 1, (.c (.int .i64 (1)))), (1, 1, (.c (.int .i64 (863999999)))), (2, 1, (.c (.bool false))), (3, 1, (.l 3)), (4, 1, (.c (.fn (.func 180) [] [])))], none⟩,
     ⟨.no, .mapset .str (.l 1) (.c (.str [116, 105, 109, 101])) (.l 4), none⟩,
     ⟨(.l 5), .mkmap, none⟩,
     ⟨.no, .mapset .str (.l 5) (.c (.str [101, 120, 97, 99, 116])) (.c (.int .i64 (1))), none⟩,
     ⟨.no, .mapset .str (.l 5) (.c (.str [99, 101, 110, 116, 105, 109, 101, 116, 114, 101, 115])) (.c (.int .i64 (10))), none⟩,
     ⟨(.l 6), .mv (.l 5), none⟩,
     ⟨(.l 7), .build [.int .i64 (0), .int .i64 (0), .bool false, .nilmap, .nilfn] [(0, 1, (.c (.int .i64 (0)))), (1, 1, (.c (.int .i64 (999999)))), (2, 1, (.c (.bool true))), (3, 1, (.l 6)), (4, 1, (.c (.fn (.func 181) [] [])))], none⟩,
     ⟨.no, .mapset .str (.l 1) (.c (.str [108, 101, 110, 103, 116, 104])) (.l 7), none⟩,
     ⟨(.l 8), .mkmap, none⟩,
     ⟨.no, .mapset .str (.l 8) (.c (.str [101, 120, 97, 99, 116])) (.c (.int .i64 (1))), none⟩,
     ⟨(.l 9), .mv (.l 8), none⟩,
     ⟨(.l 10), .build [.int .i64 (0), .int .i64 (0), .bool false, .nilmap, .nilfn] [(0, 1, (.c (.int .i64 (0)))), (1, 1, (.c (.int .i64 (99999)))), (2, 1, (.c (.bool true))), (3, 1, (.l 9)), (4, 1, (.c (.fn (.func 182) [] [])))], none⟩,
     ⟨.no, .mapset .str (.l 1) (.c (.str [112, 111, 105, 110, 116, 115])) (.l 10), none⟩,
     ⟨(.l 11), .mv (.l 1), none⟩,
     ⟨(.p 0), .mv (.l 11), none⟩])
   (.ret))
theorem ft113 : FT 113 = some ⟨12, [0], [.var (.p 0)], b113⟩ := by kernel_rfl

/-- stadion/mark.isReason -/
def b112 : ICode :=
 .seq (.region [⟨(.p 1), .mv (.c (.bool false)), none⟩])
  (.seq (.region [⟨(.l 3), .bslice 9 4 1 [.str []] [(0, 1, (.c (.str [68, 78, 83]))), (1, 1, (.c (.str [68, 78, 70]))), (2, 1, (.c (.str [68, 81]))), (3, 1, (.c (.str [78, 77])))], none⟩,
     ⟨(.l 4), .mv (.p 0), none⟩,
     ⟨(.l 5), .call (.c (.fn (.func 116) [] [])) [(.l 3), (.l 4)], none⟩,
     ⟨(.p 1), .mv (.l 5), none⟩])
   (.ret))
theorem ft112 : FT 112 = some ⟨6, [0, 2], [.var (.p 1)], b112⟩ := by kernel_rfl

/-- stadion/mark.worth -/
def b184 : ICode :=
 .seq (.region [⟨(.p 1), .box 49 3 (.p 0), none⟩,
    ⟨(.p 2), .mv (.c (.int .i64 (0))), none⟩])
  (.seq (.draw [(⟨(.l 6), .call (.c (.fn (.func 113) [] [])) [], none⟩, []),
     (⟨(.l 7), .faddr 0 (.p 1), none⟩, [0]),
     (⟨(.l 8), .load 1 false (.l 7), none⟩, [0]),
     (⟨(.l 9), .lookup .str (.agg [.int .i64 (0), .int .i64 (0), .bool false, .nilmap, .nilfn]) (.l 6) (.l 8) true, none⟩, []),
     (⟨(.l 5), .mv (.l 9), none⟩, []),
     (⟨(.l 10), .extract 0 (.l 5), none⟩, []),
     (⟨(.l 11), .extract 1 (.l 5), none⟩, [5]),
     (⟨(.p 3), .alloc 141 [.int .i64 (0), .int .i64 (0), .bool false, .nilmap, .nilfn], none⟩, [0, 1, 2, 3, 4, 5, 6]),
     (⟨.no, .store 5 (.p 3) (.l 10), none⟩, [6]),
     (⟨(.p 4), .mv (.l 11), none⟩, [])])
   (.seq (.block 0
     (.seq (.region [⟨(.l 13), .mv (.p 4), none⟩,
        ⟨(.l 14), .un .not (.l 13), none⟩,
        ⟨(.l 12), .mv (.l 14), none⟩])
      (.cond (.l 12)
       (.seq (.region [⟨(.p 2), .mv (.c (.int .i64 (-864000000))), none⟩])
        (.ret))
       (.seq (.region [⟨(.l 16), .faddr 2 (.p 3), none⟩,
          ⟨(.l 17), .load 1 false (.l 16), none⟩,
          ⟨(.l 15), .mv (.l 17), none⟩])
        (.cond (.l 15)
         (.seq (.region [⟨(.l 18), .faddr 1 (.p 1), none⟩,
            ⟨(.l 19), .load 1 false (.l 18), none⟩,
            ⟨(.p 2), .mv (.l 19), none⟩])
          (.ret))
         (.skip))))))
    (.seq (.region [⟨(.l 20), .faddr 1 (.p 1), none⟩,
       ⟨(.l 21), .load 1 false (.l 20), none⟩,
       ⟨(.l 22), .un .neg (.l 21), none⟩,
       ⟨(.p 2), .mv (.l 22), none⟩])
     (.ret))))
theorem ft184 : FT 184 = some ⟨23, [0, 1, 2, 3, 4], [.var (.p 2)], b184⟩ := by kernel_rfl

/-- stadion/mark.compare -/
def b115 : ICode :=
 .seq (.region [⟨(.p 2), .box 49 3 (.p 0), none⟩,
    ⟨(.p 3), .box 49 3 (.p 1), none⟩,
    ⟨(.p 4), .mv (.c (.int .i64 (0))), none⟩])
  (.seq (.draw [(⟨(.l 7), .load 3 true (.p 2), none⟩, []),
     (⟨(.l 8), .call (.c (.fn (.func 184) [] [])) [(.l 7)], none⟩, []),
     (⟨(.l 9), .load 3 true (.p 3), none⟩, [0, 1]),
     (⟨(.l 10), .call (.c (.fn (.func 184) [] [])) [(.l 9)], none⟩, []),
     (⟨(.p 5), .mv (.l 8), none⟩, []),
     (⟨(.p 6), .mv (.l 10), none⟩, [])])
   (.seq (.block 0
     (.seq (.region [⟨(.l 12), .mv (.p 5), none⟩,
        ⟨(.l 13), .mv (.p 6), none⟩,
        ⟨(.l 14), .bin .gtr (.l 12) (.l 13), none⟩,
        ⟨(.l 11), .mv (.l 14), none⟩])
      (.cond (.l 11)
       (.seq (.region [⟨(.p 4), .mv (.c (.int .i64 (-1))), none⟩])
        (.ret))
       (.seq (.region [⟨(.l 16), .mv (.p 5), none⟩,
          ⟨(.l 17), .mv (.p 6), none⟩,
          ⟨(.l 18), .bin .lss (.l 16) (.l 17), none⟩,
          ⟨(.l 15), .mv (.l 18), none⟩])
        (.cond (.l 15)
         (.seq (.region [⟨(.p 4), .mv (.c (.int .i64 (1))), none⟩])
          (.ret))
         (.skip))))))
    (.seq (.region [⟨(.p 4), .mv (.c (.int .i64 (0))), none⟩])
     (.ret))))
theorem ft115 : FT 115 = some ⟨19, [0, 1, 2, 3, 4, 5, 6], [.var (.p 4)], b115⟩ := by kernel_rfl

/-- stadion/mark.differ -/
def b114 : ICode :=
 .seq (.region [⟨(.p 2), .box 49 3 (.p 0), none⟩,
    ⟨(.p 3), .box 49 3 (.p 1), none⟩,
    ⟨(.p 4), .mv (.c (.bool false)), none⟩])
  (.seq (.region [⟨(.l 5), .faddr 0 (.p 2), none⟩,
     ⟨(.l 6), .load 1 false (.l 5), none⟩,
     ⟨(.l 7), .faddr 0 (.p 3), none⟩,
     ⟨(.l 8), .load 1 false (.l 7), none⟩,
     ⟨(.l 9), .bin .neq (.l 6) (.l 8), none⟩,
     ⟨(.l 10), .mv (.l 9), none⟩,
     ⟨(.l 11), .faddr 0 (.p 2), some ((.l 10), true)⟩,
     ⟨(.l 12), .load 1 false (.l 11), some ((.l 10), true)⟩,
     ⟨(.l 13), .bin .neq (.l 12) (.c (.str [110, 111, 110, 101])), some ((.l 10), true)⟩,
     ⟨(.l 14), .pick (.l 10) (.l 13) (.c (.bool false)), none⟩,
     ⟨(.l 15), .mv (.l 14), none⟩,
     ⟨(.l 16), .faddr 0 (.p 3), some ((.l 15), true)⟩,
     ⟨(.l 17), .load 1 false (.l 16), some ((.l 15), true)⟩,
     ⟨(.l 18), .bin .neq (.l 17) (.c (.str [110, 111, 110, 101])), some ((.l 15), true)⟩,
     ⟨(.l 19), .pick (.l 15) (.l 18) (.c (.bool false)), none⟩,
     ⟨(.p 4), .mv (.l 19), none⟩])
   (.ret))
theorem ft114 : FT 114 = some ⟨20, [0, 1, 2, 3, 4], [.var (.p 4)], b114⟩ := by kernel_rfl

/-- stadion/stadionref01.IsReason -/
def b109 : ICode :=
 .seq (.region [⟨(.p 1), .mv (.c (.bool false)), none⟩])
  (.seq (.region [⟨(.l 3), .mv (.p 0), none⟩,
     ⟨(.l 4), .bin .eql (.l 3) (.c (.str [68, 78, 83])), none⟩,
     ⟨(.l 5), .mv (.l 4), none⟩,
     ⟨(.l 6), .mv (.p 0), some ((.l 5), false)⟩,
     ⟨(.l 7), .bin .eql (.l 6) (.c (.str [68, 78, 70])), some ((.l 5), false)⟩,
     ⟨(.l 8), .pick (.l 5) (.c (.bool true)) (.l 7), none⟩,
     ⟨(.l 9), .mv (.l 8), none⟩,
     ⟨(.l 10), .mv (.p 0), some ((.l 9), false)⟩,
     ⟨(.l 11), .bin .eql (.l 10) (.c (.str [68, 81])), some ((.l 9), false)⟩,
     ⟨(.l 12), .pick (.l 9) (.c (.bool true)) (.l 11), none⟩,
     ⟨(.l 13), .mv (.l 12), none⟩,
     ⟨(.l 14), .mv (.p 0), some ((.l 13), false)⟩,
     ⟨(.l 15), .bin .eql (.l 14) (.c (.str [78, 77])), some ((.l 13), false)⟩,
     ⟨(.l 16), .pick (.l 13) (.c (.bool true)) (.l 15), none⟩,
     ⟨(.p 1), .mv (.l 16), none⟩])
   (.ret))
theorem ft109 : FT 109 = some ⟨17, [0, 2], [.var (.p 1)], b109⟩ := by kernel_rfl

/-- stadion/stadionref01.least -/
def b110 : ICode :=
 .seq (.region [⟨(.p 1), .mv (.c (.int .i64 (0))), none⟩])
  (.seq (.seq (.region [⟨(.l 3), .mv (.p 0), none⟩,
      ⟨(.l 4), .bin .eql (.l 3) (.c (.str [116, 105, 109, 101])), none⟩])
    (.cond (.l 4)
     (.seq (.region [⟨(.p 1), .mv (.c (.int .i64 (1))), none⟩])
      (.ret))
     (.skip)))
   (.seq (.region [⟨(.p 1), .mv (.c (.int .i64 (0))), none⟩])
    (.ret)))
theorem ft110 : FT 110 = some ⟨5, [0, 2], [.var (.p 1)], b110⟩ := by kernel_rfl

/-- stadion/stadionref01.most -/
def b111 : ICode :=
 .seq (.region [⟨(.p 1), .mv (.c (.int .i64 (0))), none⟩])
  (.seq (.seq (.region [⟨(.p 2), .mv (.p 0), none⟩])
    (.block 0
     (.seq (.region [⟨(.l 5), .bin .eql (.p 2) (.c (.str [116, 105, 109, 101])), none⟩,
        ⟨(.l 4), .mv (.l 5), none⟩])
      (.cond (.l 4)
       (.seq (.region [⟨(.p 1), .mv (.c (.int .i64 (863999999))), none⟩])
        (.ret))
       (.seq (.region [⟨(.l 7), .bin .eql (.p 2) (.c (.str [108, 101, 110, 103, 116, 104])), none⟩,
          ⟨(.l 6), .mv (.l 7), none⟩])
        (.cond (.l 6)
         (.seq (.region [⟨(.p 1), .mv (.c (.int .i64 (999999))), none⟩])
          (.ret))
         (.skip)))))))
   (.seq (.region [⟨(.p 1), .mv (.c (.int .i64 (99999))), none⟩])
    (.ret)))
theorem ft111 : FT 111 = some ⟨8, [0, 2, 3], [.var (.p 1)], b111⟩ := by kernel_rfl

/-- stadion/stadionref01.CheckMark -/
def b35 : ICode :=
 .seq (.region [⟨(.p 1), .box 49 3 (.p 0), none⟩,
    ⟨(.p 2), .mv (.c (.int .i64 (0))), none⟩])
  (.seq (.seq (.region [⟨(.l 3), .faddr 0 (.p 1), none⟩,
      ⟨(.p 3), .load 1 false (.l 3), none⟩])
    (.block 0
     (.seq (.region [⟨(.l 6), .bin .eql (.p 3) (.c (.str [110, 111, 110, 101])), none⟩,
        ⟨(.l 5), .mv (.l 6), none⟩])
      (.cond (.l 5)
       (.seq (.seq (.region [⟨(.l 7), .faddr 2 (.p 1), none⟩,
           ⟨(.l 8), .load 1 false (.l 7), none⟩,
           ⟨(.l 9), .call (.c (.fn (.func 109) [] [])) [(.l 8)], none⟩,
           ⟨(.l 10), .un .not (.l 9), none⟩])
         (.cond (.l 10)
          (.seq (.region [⟨(.p 2), .mv (.c (.int .i64 (1))), none⟩])
           (.ret))
          (.skip)))
        (.seq (.seq (.region [⟨(.l 11), .faddr 1 (.p 1), none⟩,
            ⟨(.l 12), .load 1 false (.l 11), none⟩,
            ⟨(.l 13), .bin .neq (.l 12) (.c (.int .i64 (0))), none⟩])
          (.cond (.l 13)
           (.seq (.region [⟨(.p 2), .mv (.c (.int .i64 (3))), none⟩])
            (.ret))
           (.skip)))
         (.seq (.region [⟨(.p 2), .mv (.c (.int .i64 (0))), none⟩])
          (.ret))))
       (.seq (.seq (.region [⟨(.l 15), .bin .eql (.p 3) (.c (.str [116, 105, 109, 101])), none⟩,
           ⟨(.p 4), .mv (.l 15), none⟩])
         (.cond (.p 4)
          (.skip)
          (.seq (.region [⟨(.l 16), .bin .eql (.p 3) (.c (.str [108, 101, 110, 103, 116, 104])), none⟩,
             ⟨(.p 4), .mv (.l 16), none⟩])
           (.cond (.p 4)
            (.skip)
            (.region [⟨(.l 17), .bin .eql (.p 3) (.c (.str [112, 111, 105, 110, 116, 115])), none⟩,
              ⟨(.p 4), .mv (.l 17), none⟩])))))
        (.cond (.p 4)
         (.seq (.seq (.region [⟨(.l 18), .faddr 2 (.p 1), none⟩,
             ⟨(.l 19), .load 1 false (.l 18), none⟩,
             ⟨(.l 20), .bin .neq (.l 19) (.c (.str [])), none⟩])
           (.cond (.l 20)
            (.seq (.region [⟨(.p 2), .mv (.c (.int .i64 (1))), none⟩])
             (.ret))
            (.skip)))
          (.seq (.seq (.draw [(⟨(.l 21), .faddr 1 (.p 1), none⟩, []),
              (⟨(.l 22), .load 1 false (.l 21), none⟩, []),
              (⟨(.l 23), .faddr 0 (.p 1), none⟩, [0, 1]),
              (⟨(.l 24), .load 1 false (.l 23), none⟩, [0, 1]),
              (⟨(.l 25), .call (.c (.fn (.func 110) [] [])) [(.l 24)], none⟩, [0, 1]),
              (⟨(.l 26), .bin .lss (.l 22) (.l 25), none⟩, []),
              (⟨(.l 27), .mv (.l 26), none⟩, []),
              (⟨(.l 28), .faddr 1 (.p 1), some ((.l 27), false)⟩, []),
              (⟨(.l 29), .load 1 false (.l 28), some ((.l 27), false)⟩, []),
              (⟨(.l 30), .faddr 0 (.p 1), some ((.l 27), false)⟩, [7, 8]),
              (⟨(.l 31), .load 1 false (.l 30), some ((.l 27), false)⟩, [7, 8]),
              (⟨(.l 32), .call (.c (.fn (.func 111) [] [])) [(.l 31)], some ((.l 27), false)⟩, [7, 8]),
              (⟨(.l 33), .bin .gtr (.l 29) (.l 32), some ((.l 27), false)⟩, []),
              (⟨(.l 34), .pick (.l 27) (.c (.bool true)) (.l 33), none⟩, [])])
            (.cond (.l 34)
             (.seq (.region [⟨(.p 2), .mv (.c (.int .i64 (3))), none⟩])
              (.ret))
             (.skip)))
           (.seq (.region [⟨(.p 2), .mv (.c (.int .i64 (0))), none⟩])
            (.ret))))
         (.skip)))))))
   (.seq (.region [⟨(.p 2), .mv (.c (.int .i64 (13))), none⟩])
    (.ret)))
theorem ft35 : FT 35 = some ⟨35, [0, 1, 2, 4, 14], [.var (.p 2)], b35⟩ := by kernel_rfl

/-- stadion/stadionref01.Compare -/
def b39 : ICode :=
 .seq (.region [⟨(.p 2), .box 49 3 (.p 0), none⟩,
    ⟨(.p 3), .box 49 3 (.p 1), none⟩,
    ⟨(.p 4), .mv (.c (.int .i64 (0))), none⟩])
  (.seq (.seq (.region [⟨(.l 7), .faddr 0 (.p 2), none⟩,
      ⟨(.l 8), .load 1 false (.l 7), none⟩,
      ⟨(.l 9), .bin .eql (.l 8) (.c (.str [110, 111, 110, 101])), none⟩,
      ⟨(.l 10), .mv (.l 9), none⟩,
      ⟨(.l 11), .faddr 0 (.p 3), some ((.l 10), false)⟩,
      ⟨(.l 12), .load 1 false (.l 11), some ((.l 10), false)⟩,
      ⟨(.l 13), .bin .eql (.l 12) (.c (.str [110, 111, 110, 101])), some ((.l 10), false)⟩,
      ⟨(.l 14), .pick (.l 10) (.c (.bool true)) (.l 13), none⟩])
    (.cond (.l 14)
     (.seq (.seq (.region [⟨(.l 15), .faddr 0 (.p 2), none⟩,
         ⟨(.l 16), .load 1 false (.l 15), none⟩,
         ⟨(.l 17), .faddr 0 (.p 3), none⟩,
         ⟨(.l 18), .load 1 false (.l 17), none⟩,
         ⟨(.l 19), .bin .eql (.l 16) (.l 18), none⟩])
       (.cond (.l 19)
        (.seq (.region [⟨(.p 4), .mv (.c (.int .i64 (0))), none⟩])
         (.ret))
        (.skip)))
      (.seq (.seq (.region [⟨(.l 20), .faddr 0 (.p 3), none⟩,
          ⟨(.l 21), .load 1 false (.l 20), none⟩,
          ⟨(.l 22), .bin .eql (.l 21) (.c (.str [110, 111, 110, 101])), none⟩])
        (.cond (.l 22)
         (.seq (.region [⟨(.p 4), .mv (.c (.int .i64 (-1))), none⟩])
          (.ret))
         (.skip)))
       (.seq (.region [⟨(.p 4), .mv (.c (.int .i64 (1))), none⟩])
        (.ret))))
     (.skip)))
   (.seq (.draw [(⟨(.l 23), .faddr 1 (.p 2), none⟩, []),
      (⟨(.l 24), .load 1 false (.l 23), none⟩, []),
      (⟨(.l 25), .faddr 1 (.p 3), none⟩, [0, 1]),
      (⟨(.l 26), .load 1 false (.l 25), none⟩, [0, 1]),
      (⟨(.p 5), .mv (.l 24), none⟩, [2, 3]),
      (⟨(.p 6), .mv (.l 26), none⟩, [])])
    (.seq (.seq (.region [⟨(.l 27), .faddr 0 (.p 2), none⟩,
        ⟨(.l 28), .load 1 false (.l 27), none⟩,
        ⟨(.l 29), .bin .eql (.l 28) (.c (.str [116, 105, 109, 101])), none⟩])
      (.cond (.l 29)
       (.region [⟨(.l 30), .mv (.p 6), none⟩,
         ⟨(.l 31), .mv (.p 5), none⟩,
         ⟨(.p 5), .mv (.l 30), none⟩,
         ⟨(.p 6), .mv (.l 31), none⟩])
       (.skip)))
     (.seq (.seq (.region [⟨(.l 32), .mv (.p 5), none⟩,
         ⟨(.l 33), .mv (.p 6), none⟩,
         ⟨(.l 34), .bin .gtr (.l 32) (.l 33), none⟩])
       (.cond (.l 34)
        (.seq (.region [⟨(.p 4), .mv (.c (.int .i64 (-1))), none⟩])
         (.ret))
        (.skip)))
      (.seq (.seq (.region [⟨(.l 35), .mv (.p 5), none⟩,
          ⟨(.l 36), .mv (.p 6), none⟩,
          ⟨(.l 37), .bin .lss (.l 35) (.l 36), none⟩])
        (.cond (.l 37)
         (.seq (.region [⟨(.p 4), .mv (.c (.int .i64 (1))), none⟩])
          (.ret))
         (.skip)))
       (.seq (.region [⟨(.p 4), .mv (.c (.int .i64 (0))), none⟩])
        (.ret)))))))
theorem ft39 : FT 39 = some ⟨38, [0, 1, 2, 3, 4, 5, 6], [.var (.p 4)], b39⟩ := by kernel_rfl

/-- stadion/stadionref01.Brief -/
def b34 : ICode :=
 .seq (.region [⟨(.p 1), .box 49 3 (.p 0), none⟩,
    ⟨(.p 2), .mv (.c (.bool false)), none⟩])
  (.seq (.region [⟨(.l 3), .faddr 0 (.p 1), none⟩,
     ⟨(.l 4), .load 1 false (.l 3), none⟩,
     ⟨(.l 5), .len .str (.l 4), none⟩,
     ⟨(.l 6), .bin .leq (.l 5) (.c (.int .i64 (40))), none⟩,
     ⟨(.l 7), .mv (.l 6), none⟩,
     ⟨(.l 8), .faddr 2 (.p 1), some ((.l 7), true)⟩,
     ⟨(.l 9), .load 1 false (.l 8), some ((.l 7), true)⟩,
     ⟨(.l 10), .len .str (.l 9), some ((.l 7), true)⟩,
     ⟨(.l 11), .bin .leq (.l 10) (.c (.int .i64 (40))), some ((.l 7), true)⟩,
     ⟨(.l 12), .pick (.l 7) (.l 11) (.c (.bool false)), none⟩,
     ⟨(.p 2), .mv (.l 12), none⟩])
   (.ret))
theorem ft34 : FT 34 = some ⟨13, [0, 1, 2], [.var (.p 2)], b34⟩ := by kernel_rfl

/-- slices.Contains[[]string,string] -/
def b116 : ICode :=
 .seq (.region [⟨(.p 2), .mv (.c (.bool false)), none⟩])
  (.seq (.region [⟨(.l 5), .mv (.p 0), none⟩,
     ⟨(.l 6), .mv (.p 1), none⟩,
     ⟨(.l 7), .call (.c (.fn (.func 185) [] [])) [(.l 5), (.l 6)], none⟩,
     ⟨(.l 8), .bin .geq (.l 7) (.c (.int .i64 (0))), none⟩,
     ⟨(.p 2), .mv (.l 8), none⟩])
   (.ret))
theorem ft116 : FT 116 = some ⟨9, [0, 1, 4], [.var (.p 2)], b116⟩ := by kernel_rfl

def b185_0 : ICode :=
 .seq (.region [⟨(.l 9), .bin .lss (.p 5) (.p 4), none⟩])
  (.seq (.cond (.l 9)
    (.skip)
    (.exit 0))
   (.seq (.block 1
     (.seq (.region [⟨(.l 10), .mv (.p 5), none⟩,
        ⟨(.p 3), .mv (.l 10), none⟩])
      (.seq (.region [⟨(.l 11), .mv (.p 1), none⟩,
         ⟨(.l 12), .mv (.p 0), none⟩,
         ⟨(.l 13), .mv (.p 3), none⟩,
         ⟨(.l 14), .iaddr none 1 (.l 12) (.l 13), none⟩,
         ⟨(.l 15), .load 1 false (.l 14), none⟩,
         ⟨(.l 16), .bin .eql (.l 11) (.l 15), none⟩])
       (.cond (.l 16)
        (.seq (.region [⟨(.l 17), .mv (.p 3), none⟩,
           ⟨(.p 2), .mv (.l 17), none⟩])
         (.ret))
        (.skip)))))
    (.region [⟨(.l 18), .bin .add (.p 5) (.c (.int .i64 (1))), none⟩,
      ⟨(.p 5), .mv (.l 18), none⟩])))
/-- slices.Index[[]string,string] -/
def b185 : ICode :=
 .seq (.region [⟨(.p 2), .mv (.c (.int .i64 (0))), none⟩])
  (.seq (.seq (.region [⟨(.l 6), .mv (.p 0), none⟩,
      ⟨(.p 4), .len .sl (.l 6), none⟩,
      ⟨(.p 5), .mv (.c (.int .i64 (0))), none⟩])
    (.block 0
     (.loop b185_0)))
   (.seq (.region [⟨(.p 2), .mv (.c (.int .i64 (-1))), none⟩])
    (.ret)))
theorem ft185 : FT 185 = some ⟨19, [0, 1, 4, 5, 7, 8], [.var (.p 2)], b185⟩ := by kernel_rfl

end Go.Ab.Ch1


/-
  Own work: marks of chapter 1: the contracts of the checks, of the order and of rounding.
-/
namespace Go.Ab.Ch1
variable {inv : InvF} {F : FuncId → Option IFunc}

abbrev sNone : List UInt8 := [110, 111, 110, 101]
abbrev sTime : List UInt8 := [116, 105, 109, 101]
abbrev sLength : List UInt8 := [108, 101, 110, 103, 116, 104]
abbrev sPoints : List UInt8 := [112, 111, 105, 110, 116, 115]
abbrev sExact : List UInt8 := [101, 120, 97, 99, 116]
abbrev sHund : List UInt8 := [104, 117, 110, 100, 114, 101, 100, 116, 104, 115]
abbrev sTenths : List UInt8 := [116, 101, 110, 116, 104, 115]
abbrev sCent : List UInt8 := [99, 101, 110, 116, 105, 109, 101, 116, 114, 101, 115]
abbrev mkM (k : List UInt8) (v : Int) (r : List UInt8) : AV := .agg [.str k, .int .i64 v, .str r]

def indexOf (x : List UInt8) : List (List UInt8) → Nat → Int
  | [], _ => -1
  | a :: l, i => if x = a then i else indexOf x l (i + 1)
theorem indexOf_drop {x : List UInt8} {l : List (List UInt8)} {i : Nat} (h : i < l.length) : indexOf x (l.drop i) i = if x = l[i]! then (i : Int) else indexOf x (l.drop (i + 1)) (i + 1) := by
  rw [List.drop_eq_getElem_cons h, getElem!_pos l i h, indexOf]
theorem indexOf_mem {x : List UInt8} : ∀ (l : List (List UInt8)) (i : Nat), decide (0 ≤ indexOf x l i) = decide (x ∈ l)
  | [], i => by simp [indexOf]
  | a :: l, i => by
    rw [indexOf]
    split
    · rename_i h; subst h; simp
    · rename_i h; rw [indexOf_mem l (i + 1)]; simp [h]
theorem body185 {T : List (Nat × Spec)} (l : List (List UInt8)) (x : List UInt8) (cap : Option Nat) (hl : l.length < 4611686018427387904) (hp : Heap) (df : List Nat) {Q : Ex → StW → Prop} : ∀ (r i : Nat), i + r = l.length → ∀ (a2 a3 : AV) (lo : List (Nat × AV)) (wr : List Nat),
    (indexOf x (l.drop i) i = -1 → ∀ a3 lo wr, Q (.exit 0) ⟨⟨[.vs (strs l) l.length cap, .str x, a2, a3, .int .i64 l.length, .int .i64 l.length], lo, hp, df⟩, wr⟩) →
    (∀ a3 a5 lo wr, Q .ret ⟨⟨[.vs (strs l) l.length cap, .str x, .int .i64 (indexOf x (l.drop i) i), a3, .int .i64 l.length, a5], lo, hp, df⟩, wr⟩) →
    W (mk0 T inv F) (.loop b185_0) ⟨⟨[.vs (strs l) l.length cap, .str x, a2, a3, .int .i64 l.length, .int .i64 i], lo, hp, df⟩, wr⟩ Q
  | 0, i, hi, a2, a3, lo, wr, h1, h2 => by
    obtain rfl : i = l.length := by omega
    refine W.loop ?_
    unfold b185_0
    repeat' first | apply W.seq | apply SQn | apply W.region | apply WO.nil | apply W.block | apply W.ret | apply W.exit | apply W.skip | apply SQr | apply SQe | apply BQn | apply BQr | apply BQe | (apply BQo; exact rfl) | apply LQe | apply LQr | (apply W.condT; exact rfl) | (apply W.condF; exact rfl) | (apply W.cond; exact rfl; all_goals intro _) | (apply WO.lss; exact rfl; exact rfl; all_goals first | (intro _; exfalso; omega) | intro _) | (apply WO.eql; exact rfl; exact rfl; all_goals first | (intro _; exfalso; omega) | intro _) | (apply WO.add; exact rfl; exact rfl; omega) | (apply WO.iav; exact rfl; exact rfl; omega) | (apply WO.ias; exact rfl; exact rfl; omega) | (apply WO.lda; exact rfl; exact fun _ => rfl; (first | omega | (simp only [List.length_set]; omega) | (simp; omega)); decide; exact rfl; case ia => infer_instance) | (apply WO.lsa; exact rfl; (first | exact rfl | assumption | exact at_new | (apply at_old; assumption) | (apply at_put; first | assumption | (simp only [put_length]; assumption))); exact fun _ => rfl; (first | omega | (simp only [List.length_set]; omega) | (simp; omega)); decide; exact rfl; case ia => infer_instance) | (apply WO.seql; exact rfl; exact rfl; all_goals first | (intro h; exact absurd h (by decide)) | (intro h; exact absurd rfl h) | (intro h; contradiction) | intro _) | (apply WO.hlv; exact rfl; exact rfl; exact rfl) | (apply WO.hpv; exact rfl; exact rfl; exact rfl) | (apply WO.hnv; exact rfl; exact rfl; exact rfl) | (apply WO.pl; exact rfl; exact rfl) | (apply WO.pp; exact rfl; exact rfl)
    exact h1 (by simp [indexOf]) _ _ _
  | r + 1, i, hi, a2, a3, lo, wr, h1, h2 => by
    have e := indexOf_drop (x := x) (l := l) (i := (i : Int).toNat) (by omega)
    rw [Int.toNat_natCast] at e
    refine W.loop ?_
    unfold b185_0
    repeat' first | apply W.seq | apply SQn | apply W.region | apply WO.nil | apply W.block | apply W.ret | apply W.exit | apply W.skip | apply SQr | apply SQe | apply BQn | apply BQr | apply BQe | (apply BQo; exact rfl) | apply LQe | apply LQr | (apply W.condT; exact rfl) | (apply W.condF; exact rfl) | (apply W.cond; exact rfl; all_goals intro _) | (apply WO.lss; exact rfl; exact rfl; all_goals first | (intro _; exfalso; omega) | intro _) | (apply WO.eql; exact rfl; exact rfl; all_goals first | (intro _; exfalso; omega) | intro _) | (apply WO.add; exact rfl; exact rfl; omega) | (apply WO.iav; exact rfl; exact rfl; omega) | (apply WO.ias; exact rfl; exact rfl; omega) | (apply WO.lda; exact rfl; exact fun _ => rfl; (first | omega | (simp only [List.length_set]; omega) | (simp; omega)); decide; exact rfl; case ia => infer_instance) | (apply WO.lsa; exact rfl; (first | exact rfl | assumption | exact at_new | (apply at_old; assumption) | (apply at_put; first | assumption | (simp only [put_length]; assumption))); exact fun _ => rfl; (first | omega | (simp only [List.length_set]; omega) | (simp; omega)); decide; exact rfl; case ia => infer_instance) | (apply WO.seql; exact rfl; exact rfl; all_goals first | (intro h; exact absurd h (by decide)) | (intro h; exact absurd rfl h) | (intro h; contradiction) | intro _) | (apply WO.hlv; exact rfl; exact rfl; exact rfl) | (apply WO.hpv; exact rfl; exact rfl; exact rfl) | (apply WO.hnv; exact rfl; exact rfl; exact rfl) | (apply WO.pl; exact rfl; exact rfl) | (apply WO.pp; exact rfl; exact rfl)
    · rename_i he
      rw [Int.toNat_natCast] at he
      rw [if_pos he] at e
      rw [e] at h2
      exact h2 _ _ _ _
    · rename_i he
      rw [Int.toNat_natCast] at he
      rw [if_neg he] at e
      rw [e] at h1 h2
      exact LQn (body185 l x cap hl hp df r (i + 1) (by omega) _ _ _ _ h1 h2)
theorem w185 {T : List (Nat × Spec)} (hft : F = FT) (l : List (List UInt8)) (x : List UInt8) (cap : Option Nat) (hl : l.length < 4611686018427387904) : Run (mk0 T inv F) 185 [.vs (strs l) l.length cap, .str x] [] ⟨.int .i64 (indexOf x l 0), [], []⟩ := by
  refine run_of_W (show F 185 = _ from by rw [hft]; exact ft185) (by simp) ?_
  unfold b185
  simp only [List.map_cons, List.map_nil, List.getElem?_cons_zero, List.getElem?_cons_succ, List.getElem?_nil, Option.getD_some, Option.getD_none]
  repeat' first | apply W.seq | apply SQn | apply W.region | apply WO.nil | apply W.block | apply W.ret | apply W.exit | apply W.skip | apply SQr | apply SQe | apply BQn | apply BQr | apply BQe | (apply BQo; exact rfl) | apply LQe | apply LQr | (apply W.condT; exact rfl) | (apply W.condF; exact rfl) | (apply W.cond; exact rfl; all_goals intro _) | (apply WO.pl; exact rfl; exact rfl) | (apply WO.pp; exact rfl; exact rfl)
  refine body185 l x cap hl _ _ l.length 0 (by omega) _ _ _ _ (fun h a2 lo wr => ?_) (fun a2 a5 lo wr => ?_)
  · repeat' first | apply W.seq | apply SQn | apply W.region | apply WO.nil | apply W.block | apply W.ret | apply W.exit | apply W.skip | apply SQr | apply SQe | apply BQn | apply BQr | apply BQe | (apply BQo; exact rfl) | apply LQe | apply LQr | (apply W.condT; exact rfl) | (apply W.condF; exact rfl) | (apply W.cond; exact rfl; all_goals intro _) | (apply WO.pl; exact rfl; exact rfl) | (apply WO.pp; exact rfl; exact rfl)
    exact ⟨.inr rfl, rfl, _, rfl, by rw [List.drop_zero] at h; rw [h]; rfl, rfl⟩
  · repeat' first | apply W.seq | apply SQn | apply W.region | apply WO.nil | apply W.block | apply W.ret | apply W.exit | apply W.skip | apply SQr | apply SQe | apply BQn | apply BQr | apply BQe | (apply BQo; exact rfl) | apply LQe | apply LQr | (apply W.condT; exact rfl) | (apply W.condF; exact rfl) | (apply W.cond; exact rfl; all_goals intro _) | (apply WO.pl; exact rfl; exact rfl) | (apply WO.pp; exact rfl; exact rfl)
    exact ⟨.inr rfl, rfl, _, rfl, rfl, rfl⟩

def specIndex : Spec := fun
  | [v, .str x], h => match strsAt h v with
    | some l => if l.length < 4611686018427387904 then some ⟨.int .i64 (indexOf x l 0), h, []⟩ else none
    | none => none
  | _, _ => none
def specContains : Spec := fun
  | [v, .str x], h => match strsAt h v with
    | some l => if l.length < 4611686018427387904 then some ⟨.bool (decide (x ∈ l)), h, []⟩ else none
    | none => none
  | _, _ => none
theorem strsAt_vs {h : Heap} {l : List (List UInt8)} {cap : Option Nat} : strsAt h (.vs (strs l) l.length cap) = some l := by
  simp only [strsAt, cellsAt, sliceCells, decStrs_strs, if_true]

theorem w116 {T : List (Nat × Spec)} (hft : F = FT) (l : List (List UInt8)) (x : List UInt8) (cap : Option Nat) (hl : l.length < 4611686018427387904) : Run (mk0 ((185, specIndex) :: T) inv F) 116 [.vs (strs l) l.length cap, .str x] [] ⟨.bool (decide (x ∈ l)), [], []⟩ := by
  have hi : ∀ h, (mk0 ((185, specIndex) :: T) inv F).ext 185 [.vs (strs l) l.length cap, .str x] h = some ⟨.int .i64 (indexOf x l 0), h, []⟩ := fun h => by
    show extS _ _ _ _ = _
    simp only [ext_hd, specIndex, strsAt_vs, if_pos hl]
  refine run_of_W (show F 116 = _ from by rw [hft]; exact ft116) (by simp) ?_
  unfold b116
  simp only [List.map_cons, List.map_nil, List.getElem?_cons_zero, List.getElem?_cons_succ, List.getElem?_nil, Option.getD_some, Option.getD_none]
  have hm := indexOf_mem (x := x) l 0
  repeat' first | apply W.seq | apply SQn | apply W.region | apply WO.nil | apply W.block | apply W.ret | apply W.exit | apply W.skip | apply SQr | apply SQe | apply BQn | apply BQr | apply BQe | (apply BQo; exact rfl) | apply LQe | apply LQr | (apply W.condT; exact rfl) | (apply W.condF; exact rfl) | (apply W.cond; exact rfl; all_goals intro _) | (apply WO.geq; exact rfl; exact rfl; all_goals first | (intro _; exfalso; omega) | intro _) | (apply WO.cll; exact rfl; exact rfl; first | exact hi _) | (apply WO.clb; exact rfl; exact rfl; exact rfl; all_goals first | (intro h; exact absurd h (by decide)) | intro _) | (apply WO.cll; exact rfl; exact rfl; exact rfl) | (apply WO.pl; exact rfl; exact rfl) | (apply WO.pp; exact rfl; exact rfl)
  all_goals refine ⟨.inr rfl, rfl, _, rfl, ?_, rfl⟩
  all_goals rw [← hm]
  · rename_i h; rw [decide_eq_true h]; rfl
  · rename_i h; rw [decide_eq_false (by omega)]; rfl

/-! mark.isReason, mark.kinds. -/
abbrev reasons : List (List UInt8) := [[68, 78, 83], [68, 78, 70], [68, 81], [78, 77]]
def specReason : Spec := fun
  | [.str x], h => some ⟨.bool (decide (x ∈ reasons)), h, []⟩
  | _, _ => none
theorem w112 {T : List (Nat × Spec)} (hft : F = FT) (x : List UInt8) : Run (mk0 ((116, specContains) :: T) inv F) 112 [.str x] [] ⟨.bool (decide (x ∈ reasons)), [], []⟩ := by
  refine run_of_W (show F 112 = _ from by rw [hft]; exact ft112) (by simp) ?_
  unfold b112
  simp only [List.map_cons, List.map_nil, List.getElem?_cons_zero, List.getElem?_cons_succ, List.getElem?_nil, Option.getD_some, Option.getD_none]
  repeat' first | apply W.seq | apply SQn | apply W.region | apply WO.nil | apply W.block | apply W.ret | apply W.exit | apply W.skip | apply SQr | apply SQe | apply BQn | apply BQr | apply BQe | (apply BQo; exact rfl) | apply LQe | apply LQr | (apply W.condT; exact rfl) | (apply W.condF; exact rfl) | (apply W.cond; exact rfl; all_goals intro _) | (apply WO.clb; exact rfl; exact rfl; exact rfl; all_goals first | (intro h; exact absurd h (by decide)) | intro _) | (apply WO.cll; exact rfl; exact rfl; exact rfl) | (apply WO.hlv; exact rfl; exact rfl; exact rfl) | (apply WO.hpv; exact rfl; exact rfl; exact rfl) | (apply WO.hnv; exact rfl; exact rfl; exact rfl) | (apply WO.pl; exact rfl; exact rfl) | (apply WO.pp; exact rfl; exact rfl)
  all_goals (rename_i h; exact ⟨.inr rfl, rfl, _, rfl, by rw [h]; rfl, rfl⟩)
theorem w109 {T : List (Nat × Spec)} (hft : F = FT) (x : List UInt8) : Run (mk0 T inv F) 109 [.str x] [] ⟨.bool (decide (x ∈ reasons)), [], []⟩ := by
  refine run_of_W (show F 109 = _ from by rw [hft]; exact ft109) (by simp) ?_
  unfold b109
  simp only [List.map_cons, List.map_nil, List.getElem?_cons_zero, List.getElem?_cons_succ, List.getElem?_nil, Option.getD_some, Option.getD_none]
  repeat' first | apply W.seq | apply SQn | apply W.region | apply WO.nil | apply W.block | apply W.ret | apply W.exit | apply W.skip | apply SQr | apply SQe | apply BQn | apply BQr | apply BQe | (apply BQo; exact rfl) | apply LQe | apply LQr | (apply W.condT; exact rfl) | (apply W.condF; exact rfl) | (apply W.cond; exact rfl; all_goals intro _) | (apply WO.gT; exact rfl) | (apply WO.gF; exact rfl) | (apply WO.sT; exact rfl) | (apply WO.sF; exact rfl) | (apply WO.sU; exact rfl) | (apply WO.eql; exact rfl; exact rfl; all_goals first | (intro _; exfalso; omega) | intro _) | (apply WO.pkT; exact rfl; exact rfl) | (apply WO.pkF; exact rfl; exact rfl) | (apply WO.seql; exact rfl; exact rfl; all_goals first | (intro h; exact absurd h (by decide)) | (intro h; exact absurd rfl h) | (intro h; contradiction) | intro _) | (apply WO.pl; exact rfl; exact rfl) | (apply WO.pp; exact rfl; exact rfl)
  all_goals exact ⟨.inr rfl, rfl, _, rfl, by simp [tupA, *], rfl⟩

abbrev rTime (N : Nat) : AV := .agg [.int .i64 1, .int .i64 863999999, .bool false, .map (N + 1), .fn (.func 180) [] []]
abbrev rLength (N : Nat) : AV := .agg [.int .i64 0, .int .i64 999999, .bool true, .map (N + 2), .fn (.func 181) [] []]
abbrev rPoints (N : Nat) : AV := .agg [.int .i64 0, .int .i64 99999, .bool true, .map (N + 3), .fn (.func 182) [] []]
abbrev kBlocks (N : Nat) : List Blk := [.map [(.str sTime, rTime N), (.str sLength, rLength N), (.str sPoints, rPoints N)],
  .map [(.str sExact, .int .i64 1), (.str sHund, .int .i64 100), (.str sTenths, .int .i64 1000)], .map [(.str sExact, .int .i64 1), (.str sCent, .int .i64 10)], .map [(.str sExact, .int .i64 1)]]
def specKinds : Spec := fun
  | [], h => some ⟨.map h.length, h ++ (kBlocks h.length).map some, []⟩
  | _, _ => none
theorem w113 {T : List (Nat × Spec)} (hft : F = FT) : Run (mk0 T inv F) 113 [] [] ⟨.map 0, (kBlocks 0).map some, []⟩ := by
  refine run_of_W (show F 113 = _ from by rw [hft]; exact ft113) (by simp) ?_
  unfold b113
  simp only [List.map_cons, List.map_nil, List.getElem?_nil, Option.getD_none]
  repeat' first | apply W.seq | apply SQn | apply W.region | apply WO.nil | apply W.block | apply W.ret | apply W.exit | apply W.skip | apply SQr | apply SQe | apply BQn | apply BQr | apply BQe | (apply BQo; exact rfl) | apply LQe | apply LQr | (apply W.condT; exact rfl) | (apply W.condF; exact rfl) | (apply W.cond; exact rfl; all_goals intro _) | (apply WO.hlv; exact rfl; exact rfl; exact rfl) | (apply WO.hpv; exact rfl; exact rfl; exact rfl) | (apply WO.hnv; exact rfl; exact rfl; exact rfl) | (apply WO.pl; exact rfl; exact rfl) | (apply WO.pp; exact rfl; exact rfl)
  exact ⟨.inr rfl, rfl, _, rfl, rfl, rfl⟩

def kLeast (k : List UInt8) : Int := if k = sTime then 1 else 0
def kMost (k : List UInt8) : Int := if k = sTime then 863999999 else if k = sLength then 999999 else 99999
def known (k : List UInt8) : Prop := k = sTime ∨ k = sLength ∨ k = sPoints
instance (k : List UInt8) : Decidable (known k) := by unfold known; infer_instance
/-- The first error of a mark. -/
def chk (k : List UInt8) (v : Int) (r : List UInt8) : Int :=
  if k = sNone then (if r ∉ reasons then 1 else if v ≠ 0 then 3 else 0) else if ¬ known k then 13 else if r ≠ [] then 1 else if v < kLeast k ∨ kMost k < v then 3 else 0

theorem kind_cases (k : List UInt8) : k = sNone ∨ k = sTime ∨ k = sLength ∨ k = sPoints ∨ (k ≠ sNone ∧ ¬ known k) := by
  unfold known
  by_cases h1 : k = sNone
  · exact .inl h1
  by_cases h2 : k = sTime
  · exact .inr (.inl h2)
  by_cases h3 : k = sLength
  · exact .inr (.inr (.inl h3))
  by_cases h4 : k = sPoints
  · exact .inr (.inr (.inr (.inl h4)))
  exact .inr (.inr (.inr (.inr ⟨h1, by simp [h2, h3, h4]⟩)))

def TChk : List (Nat × Spec) := [(113, specKinds), (112, specReason), (97, specWhen), (96, specFirst), (95, fun
  | [.int .i64 x, .int .i64 lo, .int .i64 hi], h => some ⟨.bool (decide (x < lo) || decide (hi < x)), h, []⟩
  | _, _ => none)]
set_option maxHeartbeats 4000000 in
theorem w36 (hft : F = FT) (k : List UInt8) (v : Int) (r : List UInt8) : Run (mk0 TChk inv F) 36 [mkM k v r] [] ⟨.int .i64 (chk k v r), [], []⟩ := by
  refine run_of_W (show F 36 = _ from by rw [hft]; exact ft36) (by simp) ?_
  unfold b36
  simp only [List.map_cons, List.map_nil, List.getElem?_cons_zero, List.getElem?_cons_succ, List.getElem?_nil, Option.getD_some, Option.getD_none]
  rcases kind_cases k with rfl | rfl | rfl | rfl | ⟨h1, h2⟩
  · repeat' first | apply W.seq | apply SQn | apply W.region | apply WO.nil | apply W.block | apply W.ret | apply W.exit | apply W.skip | apply SQr | apply SQe | apply BQn | apply BQr | apply BQe | (apply BQo; exact rfl) | apply LQe | apply LQr | (apply W.drawro; exact rfl) | apply W.draw | apply WD.nil | (apply WD.gT; exact rfl) | (apply WD.gF; exact rfl) | (apply WD.sT; exact rfl) | (apply WD.sF; exact rfl) | (apply WD.sU; exact rfl) | (apply WD.pure1; exact rfl) | (apply WD.load1; exact rfl; exact rfl; exact rfl) | (apply WD.store1; exact rfl; exact rfl; exact rfl) | (apply WD.new1; exact rfl) | (apply WD.look1; exact rfl; exact rfl) | (apply WD.clb; exact rfl; exact rfl; exact rfl; exact rfl; all_goals first | (intro h; exact absurd h (by decide)) | intro _) | (apply WD.cl0; exact rfl; exact rfl; exact rfl; exact rfl) | (apply WD.cl1; exact rfl; exact rfl; exact rfl; exact rfl) | (apply W.condT; exact rfl) | (apply W.condF; exact rfl) | (apply W.cond; exact rfl; all_goals intro _) | (apply WO.eql; exact rfl; exact rfl; all_goals first | (intro _; exfalso; omega) | intro _) | (apply WO.neq; exact rfl; exact rfl; all_goals first | (intro _; exfalso; omega) | intro _) | (apply WO.seql; exact rfl; exact rfl; all_goals first | (intro h; exact absurd h (by decide)) | (intro h; exact absurd rfl h) | (intro h; contradiction) | intro _) | (apply WO.sneq; exact rfl; exact rfl; all_goals first | (intro h; exact absurd h (by decide)) | (intro h; exact absurd rfl h) | (intro h; contradiction) | intro _) | (apply WO.clb; exact rfl; exact rfl; exact rfl; all_goals first | (intro h; exact absurd h (by decide)) | intro _) | (apply WO.cll; exact rfl; exact rfl; exact rfl) | (apply WO.hlv; exact rfl; exact rfl; exact rfl) | (apply WO.hpv; exact rfl; exact rfl; exact rfl) | (apply WO.hnv; exact rfl; exact rfl; exact rfl) | (apply WO.pl; exact rfl; exact rfl) | (apply WO.pp; exact rfl; exact rfl)
    all_goals refine ⟨.inr rfl, rfl, _, rfl, congrArg (AV.int .i64) ?_, rfl⟩
    all_goals (by_cases hr : r ∈ reasons <;> simp_all [firstNZ, chk])
  · repeat' first | apply W.seq | apply SQn | apply W.region | apply WO.nil | apply W.block | apply W.ret | apply W.exit | apply W.skip | apply SQr | apply SQe | apply BQn | apply BQr | apply BQe | (apply BQo; exact rfl) | apply LQe | apply LQr | (apply W.drawro; exact rfl) | apply W.draw | apply WD.nil | (apply WD.gT; exact rfl) | (apply WD.gF; exact rfl) | (apply WD.sT; exact rfl) | (apply WD.sF; exact rfl) | (apply WD.sU; exact rfl) | (apply WD.pure1; exact rfl) | (apply WD.load1; exact rfl; exact rfl; exact rfl) | (apply WD.store1; exact rfl; exact rfl; exact rfl) | (apply WD.new1; exact rfl) | (apply WD.look1; exact rfl; exact rfl) | (apply WD.clb; exact rfl; exact rfl; exact rfl; exact rfl; all_goals first | (intro h; exact absurd h (by decide)) | intro _) | (apply WD.cl0; exact rfl; exact rfl; exact rfl; exact rfl) | (apply WD.cl1; exact rfl; exact rfl; exact rfl; exact rfl) | (apply W.condT; exact rfl) | (apply W.condF; exact rfl) | (apply W.cond; exact rfl; all_goals intro _) | (apply WO.eql; exact rfl; exact rfl; all_goals first | (intro _; exfalso; omega) | intro _) | (apply WO.neq; exact rfl; exact rfl; all_goals first | (intro _; exfalso; omega) | intro _) | (apply WO.seql; exact rfl; exact rfl; all_goals first | (intro h; exact absurd h (by decide)) | (intro h; exact absurd rfl h) | (intro h; contradiction) | intro _) | (apply WO.sneq; exact rfl; exact rfl; all_goals first | (intro h; exact absurd h (by decide)) | (intro h; exact absurd rfl h) | (intro h; contradiction) | intro _) | (apply WO.clb; exact rfl; exact rfl; exact rfl; all_goals first | (intro h; exact absurd h (by decide)) | intro _) | (apply WO.cll; exact rfl; exact rfl; exact rfl) | (apply WO.hlv; exact rfl; exact rfl; exact rfl) | (apply WO.hpv; exact rfl; exact rfl; exact rfl) | (apply WO.hnv; exact rfl; exact rfl; exact rfl) | (apply WO.pl; exact rfl; exact rfl) | (apply WO.pp; exact rfl; exact rfl)
    all_goals refine ⟨.inr rfl, rfl, _, rfl, congrArg (AV.int .i64) ?_, rfl⟩
    all_goals (by_cases hv : v < 1 ∨ 863999999 < v <;> simp_all [firstNZ, chk, known, kLeast, kMost] <;> omega)
  · repeat' first | apply W.seq | apply SQn | apply W.region | apply WO.nil | apply W.block | apply W.ret | apply W.exit | apply W.skip | apply SQr | apply SQe | apply BQn | apply BQr | apply BQe | (apply BQo; exact rfl) | apply LQe | apply LQr | (apply W.drawro; exact rfl) | apply W.draw | apply WD.nil | (apply WD.gT; exact rfl) | (apply WD.gF; exact rfl) | (apply WD.sT; exact rfl) | (apply WD.sF; exact rfl) | (apply WD.sU; exact rfl) | (apply WD.pure1; exact rfl) | (apply WD.load1; exact rfl; exact rfl; exact rfl) | (apply WD.store1; exact rfl; exact rfl; exact rfl) | (apply WD.new1; exact rfl) | (apply WD.look1; exact rfl; exact rfl) | (apply WD.clb; exact rfl; exact rfl; exact rfl; exact rfl; all_goals first | (intro h; exact absurd h (by decide)) | intro _) | (apply WD.cl0; exact rfl; exact rfl; exact rfl; exact rfl) | (apply WD.cl1; exact rfl; exact rfl; exact rfl; exact rfl) | (apply W.condT; exact rfl) | (apply W.condF; exact rfl) | (apply W.cond; exact rfl; all_goals intro _) | (apply WO.eql; exact rfl; exact rfl; all_goals first | (intro _; exfalso; omega) | intro _) | (apply WO.neq; exact rfl; exact rfl; all_goals first | (intro _; exfalso; omega) | intro _) | (apply WO.seql; exact rfl; exact rfl; all_goals first | (intro h; exact absurd h (by decide)) | (intro h; exact absurd rfl h) | (intro h; contradiction) | intro _) | (apply WO.sneq; exact rfl; exact rfl; all_goals first | (intro h; exact absurd h (by decide)) | (intro h; exact absurd rfl h) | (intro h; contradiction) | intro _) | (apply WO.clb; exact rfl; exact rfl; exact rfl; all_goals first | (intro h; exact absurd h (by decide)) | intro _) | (apply WO.cll; exact rfl; exact rfl; exact rfl) | (apply WO.hlv; exact rfl; exact rfl; exact rfl) | (apply WO.hpv; exact rfl; exact rfl; exact rfl) | (apply WO.hnv; exact rfl; exact rfl; exact rfl) | (apply WO.pl; exact rfl; exact rfl) | (apply WO.pp; exact rfl; exact rfl)
    all_goals refine ⟨.inr rfl, rfl, _, rfl, congrArg (AV.int .i64) ?_, rfl⟩
    all_goals (by_cases hv : v < 0 ∨ 999999 < v <;> simp_all [firstNZ, chk, known, kLeast, kMost] <;> omega)
  · repeat' first | apply W.seq | apply SQn | apply W.region | apply WO.nil | apply W.block | apply W.ret | apply W.exit | apply W.skip | apply SQr | apply SQe | apply BQn | apply BQr | apply BQe | (apply BQo; exact rfl) | apply LQe | apply LQr | (apply W.drawro; exact rfl) | apply W.draw | apply WD.nil | (apply WD.gT; exact rfl) | (apply WD.gF; exact rfl) | (apply WD.sT; exact rfl) | (apply WD.sF; exact rfl) | (apply WD.sU; exact rfl) | (apply WD.pure1; exact rfl) | (apply WD.load1; exact rfl; exact rfl; exact rfl) | (apply WD.store1; exact rfl; exact rfl; exact rfl) | (apply WD.new1; exact rfl) | (apply WD.look1; exact rfl; exact rfl) | (apply WD.clb; exact rfl; exact rfl; exact rfl; exact rfl; all_goals first | (intro h; exact absurd h (by decide)) | intro _) | (apply WD.cl0; exact rfl; exact rfl; exact rfl; exact rfl) | (apply WD.cl1; exact rfl; exact rfl; exact rfl; exact rfl) | (apply W.condT; exact rfl) | (apply W.condF; exact rfl) | (apply W.cond; exact rfl; all_goals intro _) | (apply WO.eql; exact rfl; exact rfl; all_goals first | (intro _; exfalso; omega) | intro _) | (apply WO.neq; exact rfl; exact rfl; all_goals first | (intro _; exfalso; omega) | intro _) | (apply WO.seql; exact rfl; exact rfl; all_goals first | (intro h; exact absurd h (by decide)) | (intro h; exact absurd rfl h) | (intro h; contradiction) | intro _) | (apply WO.sneq; exact rfl; exact rfl; all_goals first | (intro h; exact absurd h (by decide)) | (intro h; exact absurd rfl h) | (intro h; contradiction) | intro _) | (apply WO.clb; exact rfl; exact rfl; exact rfl; all_goals first | (intro h; exact absurd h (by decide)) | intro _) | (apply WO.cll; exact rfl; exact rfl; exact rfl) | (apply WO.hlv; exact rfl; exact rfl; exact rfl) | (apply WO.hpv; exact rfl; exact rfl; exact rfl) | (apply WO.hnv; exact rfl; exact rfl; exact rfl) | (apply WO.pl; exact rfl; exact rfl) | (apply WO.pp; exact rfl; exact rfl)
    all_goals refine ⟨.inr rfl, rfl, _, rfl, congrArg (AV.int .i64) ?_, rfl⟩
    all_goals (by_cases hv : v < 0 ∨ 99999 < v <;> simp_all [firstNZ, chk, known, kLeast, kMost] <;> omega)
  · simp only [known, not_or] at h2
    have b1 : (k == sTime) = false := beq_eq_false_iff_ne.2 h2.1
    have b2 : (k == sLength) = false := beq_eq_false_iff_ne.2 h2.2.1
    have b3 : (k == sPoints) = false := beq_eq_false_iff_ne.2 h2.2.2
    repeat' first | apply W.seq | apply SQn | apply W.region | apply WO.nil | apply W.block | apply W.ret | apply W.exit | apply W.skip | apply SQr | apply SQe | apply BQn | apply BQr | apply BQe | (apply BQo; exact rfl) | apply LQe | apply LQr | (apply W.drawro; exact rfl) | apply W.draw | apply WD.nil | (apply WD.gT; exact rfl) | (apply WD.gF; exact rfl) | (apply WD.sT; exact rfl) | (apply WD.sF; exact rfl) | (apply WD.sU; exact rfl) | (apply WD.pure1; exact rfl) | (apply WD.load1; exact rfl; exact rfl; exact rfl) | (apply WD.store1; exact rfl; exact rfl; exact rfl) | (apply WD.new1; exact rfl) | (apply WD.look1; exact rfl; exact rfl) | (apply WD.clb; exact rfl; exact rfl; exact rfl; exact rfl; all_goals first | (intro h; exact absurd h (by decide)) | intro _) | (apply WD.cl0; exact rfl; exact rfl; exact rfl; exact rfl) | (apply WD.cl1; exact rfl; exact rfl; exact rfl; exact rfl) | (apply W.condT; exact rfl) | (apply W.condF; exact rfl) | (apply W.cond; exact rfl; all_goals intro _) | (apply WO.eql; exact rfl; exact rfl; all_goals first | (intro _; exfalso; omega) | intro _) | (apply WO.neq; exact rfl; exact rfl; all_goals first | (intro _; exfalso; omega) | intro _) | (apply WO.lkN; exact rfl; exact rfl; exact rfl; exact rfl; simp only [findA, keyEq, b1, b2, b3]) | (apply WO.seql; exact rfl; exact rfl; all_goals first | (intro h; exact absurd h (by decide)) | (intro h; exact absurd rfl h) | (intro h; contradiction) | intro _) | (apply WO.sneq; exact rfl; exact rfl; all_goals first | (intro h; exact absurd h (by decide)) | (intro h; exact absurd rfl h) | (intro h; contradiction) | intro _) | (apply WO.clb; exact rfl; exact rfl; exact rfl; all_goals first | (intro h; exact absurd h (by decide)) | intro _) | (apply WO.cll; exact rfl; exact rfl; exact rfl) | (apply WO.hlv; exact rfl; exact rfl; exact rfl) | (apply WO.hpv; exact rfl; exact rfl; exact rfl) | (apply WO.hnv; exact rfl; exact rfl; exact rfl) | (apply WO.pl; exact rfl; exact rfl) | (apply WO.pp; exact rfl; exact rfl)
    all_goals refine ⟨.inr rfl, rfl, _, rfl, congrArg (AV.int .i64) ?_, rfl⟩
    all_goals simp [firstNZ, chk, known, h1, h2]

def specChk : Spec := fun
  | [.agg [.str k, .int .i64 v, .str r]], h => some ⟨.int .i64 (chk k v r), h, []⟩
  | _, _ => none

theorem w110 {T : List (Nat × Spec)} (hft : F = FT) (k : List UInt8) : Run (mk0 T inv F) 110 [.str k] [] ⟨.int .i64 (kLeast k), [], []⟩ := by
  refine run_of_W (show F 110 = _ from by rw [hft]; exact ft110) (by simp) ?_
  unfold b110
  simp only [List.map_cons, List.map_nil, List.getElem?_cons_zero, List.getElem?_cons_succ, List.getElem?_nil, Option.getD_some, Option.getD_none]
  repeat' first | apply W.seq | apply SQn | apply W.region | apply WO.nil | apply W.block | apply W.ret | apply W.exit | apply W.skip | apply SQr | apply SQe | apply BQn | apply BQr | apply BQe | (apply BQo; exact rfl) | apply LQe | apply LQr | (apply W.condT; exact rfl) | (apply W.condF; exact rfl) | (apply W.cond; exact rfl; all_goals intro _) | (apply WO.eql; exact rfl; exact rfl; all_goals first | (intro _; exfalso; omega) | intro _) | (apply WO.seql; exact rfl; exact rfl; all_goals first | (intro h; exact absurd h (by decide)) | (intro h; exact absurd rfl h) | (intro h; contradiction) | intro _) | (apply WO.pl; exact rfl; exact rfl) | (apply WO.pp; exact rfl; exact rfl)
  all_goals exact ⟨.inr rfl, rfl, _, rfl, by simp [tupA, kLeast, *], rfl⟩
theorem w111 {T : List (Nat × Spec)} (hft : F = FT) (k : List UInt8) : Run (mk0 T inv F) 111 [.str k] [] ⟨.int .i64 (kMost k), [], []⟩ := by
  refine run_of_W (show F 111 = _ from by rw [hft]; exact ft111) (by simp) ?_
  unfold b111
  simp only [List.map_cons, List.map_nil, List.getElem?_cons_zero, List.getElem?_cons_succ, List.getElem?_nil, Option.getD_some, Option.getD_none]
  repeat' first | apply W.seq | apply SQn | apply W.region | apply WO.nil | apply W.block | apply W.ret | apply W.exit | apply W.skip | apply SQr | apply SQe | apply BQn | apply BQr | apply BQe | (apply BQo; exact rfl) | apply LQe | apply LQr | (apply W.condT; exact rfl) | (apply W.condF; exact rfl) | (apply W.cond; exact rfl; all_goals intro _) | (apply WO.eql; exact rfl; exact rfl; all_goals first | (intro _; exfalso; omega) | intro _) | (apply WO.seql; exact rfl; exact rfl; all_goals first | (intro h; exact absurd h (by decide)) | (intro h; exact absurd rfl h) | (intro h; contradiction) | intro _) | (apply WO.pl; exact rfl; exact rfl) | (apply WO.pp; exact rfl; exact rfl)
  all_goals exact ⟨.inr rfl, rfl, _, rfl, by simp [tupA, kMost, *], rfl⟩
def TRefChk : List (Nat × Spec) := [(109, specReason), (110, fun
  | [.str k], h => some ⟨.int .i64 (kLeast k), h, []⟩
  | _, _ => none), (111, fun
  | [.str k], h => some ⟨.int .i64 (kMost k), h, []⟩
  | _, _ => none)]
set_option maxHeartbeats 4000000 in
theorem w35 (hft : F = FT) (k : List UInt8) (v : Int) (r : List UInt8) : Run (mk0 TRefChk inv F) 35 [mkM k v r] [] ⟨.int .i64 (chk k v r), [], []⟩ := by
  refine run_of_W (show F 35 = _ from by rw [hft]; exact ft35) (by simp) ?_
  unfold b35
  simp only [List.map_cons, List.map_nil, List.getElem?_cons_zero, List.getElem?_cons_succ, List.getElem?_nil, Option.getD_some, Option.getD_none]
  rcases kind_cases k with rfl | rfl | rfl | rfl | ⟨h1, h2⟩
  · repeat' first | apply W.seq | apply SQn | apply W.region | apply WO.nil | apply W.block | apply W.ret | apply W.exit | apply W.skip | apply SQr | apply SQe | apply BQn | apply BQr | apply BQe | (apply BQo; exact rfl) | apply LQe | apply LQr | (apply W.drawro; exact rfl) | apply W.draw | apply WD.nil | (apply WD.gT; exact rfl) | (apply WD.gF; exact rfl) | (apply WD.sT; exact rfl) | (apply WD.sF; exact rfl) | (apply WD.sU; exact rfl) | (apply WD.pure1; exact rfl) | (apply WD.load1; exact rfl; exact rfl; exact rfl) | (apply WD.new1; exact rfl) | (apply WD.clb; exact rfl; exact rfl; exact rfl; exact rfl; all_goals first | (intro h; exact absurd h (by decide)) | intro _) | (apply WD.cl0; exact rfl; exact rfl; exact rfl; exact rfl) | (apply WD.cl1; exact rfl; exact rfl; exact rfl; exact rfl) | (apply W.condT; exact rfl) | (apply W.condF; exact rfl) | (apply W.cond; exact rfl; all_goals intro _) | (apply WO.gT; exact rfl) | (apply WO.gF; exact rfl) | (apply WO.sT; exact rfl) | (apply WO.sF; exact rfl) | (apply WO.sU; exact rfl) | (apply WO.lss; exact rfl; exact rfl; all_goals first | (intro _; exfalso; omega) | intro _) | (apply WO.gtr; exact rfl; exact rfl; all_goals first | (intro _; exfalso; omega) | intro _) | (apply WO.eql; exact rfl; exact rfl; all_goals first | (intro _; exfalso; omega) | intro _) | (apply WO.neq; exact rfl; exact rfl; all_goals first | (intro _; exfalso; omega) | intro _) | (apply WO.pkT; exact rfl; exact rfl) | (apply WO.pkF; exact rfl; exact rfl) | (apply WO.seql; exact rfl; exact rfl; all_goals first | (intro h; exact absurd h (by decide)) | (intro h; exact absurd rfl h) | (intro h; contradiction) | intro _) | (apply WO.sneq; exact rfl; exact rfl; all_goals first | (intro h; exact absurd h (by decide)) | (intro h; exact absurd rfl h) | (intro h; contradiction) | intro _) | (apply WO.clb; exact rfl; exact rfl; exact rfl; all_goals first | (intro h; exact absurd h (by decide)) | intro _) | (apply WO.cll; exact rfl; exact rfl; exact rfl) | (apply WO.hlv; exact rfl; exact rfl; exact rfl) | (apply WO.hpv; exact rfl; exact rfl; exact rfl) | (apply WO.hnv; exact rfl; exact rfl; exact rfl) | (apply WO.pl; exact rfl; exact rfl) | (apply WO.pp; exact rfl; exact rfl)
    all_goals refine ⟨.inr rfl, rfl, _, rfl, congrArg (AV.int .i64) ?_, rfl⟩
    all_goals simp_all [chk]
  · repeat' first | apply W.seq | apply SQn | apply W.region | apply WO.nil | apply W.block | apply W.ret | apply W.exit | apply W.skip | apply SQr | apply SQe | apply BQn | apply BQr | apply BQe | (apply BQo; exact rfl) | apply LQe | apply LQr | (apply W.drawro; exact rfl) | apply W.draw | apply WD.nil | (apply WD.gT; exact rfl) | (apply WD.gF; exact rfl) | (apply WD.sT; exact rfl) | (apply WD.sF; exact rfl) | (apply WD.sU; exact rfl) | (apply WD.pure1; exact rfl) | (apply WD.load1; exact rfl; exact rfl; exact rfl) | (apply WD.new1; exact rfl) | (apply WD.clb; exact rfl; exact rfl; exact rfl; exact rfl; all_goals first | (intro h; exact absurd h (by decide)) | intro _) | (apply WD.cl0; exact rfl; exact rfl; exact rfl; exact rfl) | (apply WD.cl1; exact rfl; exact rfl; exact rfl; exact rfl) | (apply W.condT; exact rfl) | (apply W.condF; exact rfl) | (apply W.cond; exact rfl; all_goals intro _) | (apply WO.gT; exact rfl) | (apply WO.gF; exact rfl) | (apply WO.sT; exact rfl) | (apply WO.sF; exact rfl) | (apply WO.sU; exact rfl) | (apply WO.lss; exact rfl; exact rfl; all_goals first | (intro _; exfalso; omega) | intro _) | (apply WO.gtr; exact rfl; exact rfl; all_goals first | (intro _; exfalso; omega) | intro _) | (apply WO.eql; exact rfl; exact rfl; all_goals first | (intro _; exfalso; omega) | intro _) | (apply WO.neq; exact rfl; exact rfl; all_goals first | (intro _; exfalso; omega) | intro _) | (apply WO.pkT; exact rfl; exact rfl) | (apply WO.pkF; exact rfl; exact rfl) | (apply WO.seql; exact rfl; exact rfl; all_goals first | (intro h; exact absurd h (by decide)) | (intro h; exact absurd rfl h) | (intro h; contradiction) | intro _) | (apply WO.sneq; exact rfl; exact rfl; all_goals first | (intro h; exact absurd h (by decide)) | (intro h; exact absurd rfl h) | (intro h; contradiction) | intro _) | (apply WO.clb; exact rfl; exact rfl; exact rfl; all_goals first | (intro h; exact absurd h (by decide)) | intro _) | (apply WO.cll; exact rfl; exact rfl; exact rfl) | (apply WO.hlv; exact rfl; exact rfl; exact rfl) | (apply WO.hpv; exact rfl; exact rfl; exact rfl) | (apply WO.hnv; exact rfl; exact rfl; exact rfl) | (apply WO.pl; exact rfl; exact rfl) | (apply WO.pp; exact rfl; exact rfl)
    all_goals refine ⟨.inr rfl, rfl, _, rfl, congrArg (AV.int .i64) ?_, rfl⟩
    all_goals simp_all [chk, known, kLeast, kMost]
    all_goals omega
  · repeat' first | apply W.seq | apply SQn | apply W.region | apply WO.nil | apply W.block | apply W.ret | apply W.exit | apply W.skip | apply SQr | apply SQe | apply BQn | apply BQr | apply BQe | (apply BQo; exact rfl) | apply LQe | apply LQr | (apply W.drawro; exact rfl) | apply W.draw | apply WD.nil | (apply WD.gT; exact rfl) | (apply WD.gF; exact rfl) | (apply WD.sT; exact rfl) | (apply WD.sF; exact rfl) | (apply WD.sU; exact rfl) | (apply WD.pure1; exact rfl) | (apply WD.load1; exact rfl; exact rfl; exact rfl) | (apply WD.new1; exact rfl) | (apply WD.clb; exact rfl; exact rfl; exact rfl; exact rfl; all_goals first | (intro h; exact absurd h (by decide)) | intro _) | (apply WD.cl0; exact rfl; exact rfl; exact rfl; exact rfl) | (apply WD.cl1; exact rfl; exact rfl; exact rfl; exact rfl) | (apply W.condT; exact rfl) | (apply W.condF; exact rfl) | (apply W.cond; exact rfl; all_goals intro _) | (apply WO.gT; exact rfl) | (apply WO.gF; exact rfl) | (apply WO.sT; exact rfl) | (apply WO.sF; exact rfl) | (apply WO.sU; exact rfl) | (apply WO.lss; exact rfl; exact rfl; all_goals first | (intro _; exfalso; omega) | intro _) | (apply WO.gtr; exact rfl; exact rfl; all_goals first | (intro _; exfalso; omega) | intro _) | (apply WO.eql; exact rfl; exact rfl; all_goals first | (intro _; exfalso; omega) | intro _) | (apply WO.neq; exact rfl; exact rfl; all_goals first | (intro _; exfalso; omega) | intro _) | (apply WO.pkT; exact rfl; exact rfl) | (apply WO.pkF; exact rfl; exact rfl) | (apply WO.seql; exact rfl; exact rfl; all_goals first | (intro h; exact absurd h (by decide)) | (intro h; exact absurd rfl h) | (intro h; contradiction) | intro _) | (apply WO.sneq; exact rfl; exact rfl; all_goals first | (intro h; exact absurd h (by decide)) | (intro h; exact absurd rfl h) | (intro h; contradiction) | intro _) | (apply WO.clb; exact rfl; exact rfl; exact rfl; all_goals first | (intro h; exact absurd h (by decide)) | intro _) | (apply WO.cll; exact rfl; exact rfl; exact rfl) | (apply WO.hlv; exact rfl; exact rfl; exact rfl) | (apply WO.hpv; exact rfl; exact rfl; exact rfl) | (apply WO.hnv; exact rfl; exact rfl; exact rfl) | (apply WO.pl; exact rfl; exact rfl) | (apply WO.pp; exact rfl; exact rfl)
    all_goals refine ⟨.inr rfl, rfl, _, rfl, congrArg (AV.int .i64) ?_, rfl⟩
    all_goals simp_all [chk, known, kLeast, kMost]
    all_goals omega
  · repeat' first | apply W.seq | apply SQn | apply W.region | apply WO.nil | apply W.block | apply W.ret | apply W.exit | apply W.skip | apply SQr | apply SQe | apply BQn | apply BQr | apply BQe | (apply BQo; exact rfl) | apply LQe | apply LQr | (apply W.drawro; exact rfl) | apply W.draw | apply WD.nil | (apply WD.gT; exact rfl) | (apply WD.gF; exact rfl) | (apply WD.sT; exact rfl) | (apply WD.sF; exact rfl) | (apply WD.sU; exact rfl) | (apply WD.pure1; exact rfl) | (apply WD.load1; exact rfl; exact rfl; exact rfl) | (apply WD.new1; exact rfl) | (apply WD.clb; exact rfl; exact rfl; exact rfl; exact rfl; all_goals first | (intro h; exact absurd h (by decide)) | intro _) | (apply WD.cl0; exact rfl; exact rfl; exact rfl; exact rfl) | (apply WD.cl1; exact rfl; exact rfl; exact rfl; exact rfl) | (apply W.condT; exact rfl) | (apply W.condF; exact rfl) | (apply W.cond; exact rfl; all_goals intro _) | (apply WO.gT; exact rfl) | (apply WO.gF; exact rfl) | (apply WO.sT; exact rfl) | (apply WO.sF; exact rfl) | (apply WO.sU; exact rfl) | (apply WO.lss; exact rfl; exact rfl; all_goals first | (intro _; exfalso; omega) | intro _) | (apply WO.gtr; exact rfl; exact rfl; all_goals first | (intro _; exfalso; omega) | intro _) | (apply WO.eql; exact rfl; exact rfl; all_goals first | (intro _; exfalso; omega) | intro _) | (apply WO.neq; exact rfl; exact rfl; all_goals first | (intro _; exfalso; omega) | intro _) | (apply WO.pkT; exact rfl; exact rfl) | (apply WO.pkF; exact rfl; exact rfl) | (apply WO.seql; exact rfl; exact rfl; all_goals first | (intro h; exact absurd h (by decide)) | (intro h; exact absurd rfl h) | (intro h; contradiction) | intro _) | (apply WO.sneq; exact rfl; exact rfl; all_goals first | (intro h; exact absurd h (by decide)) | (intro h; exact absurd rfl h) | (intro h; contradiction) | intro _) | (apply WO.clb; exact rfl; exact rfl; exact rfl; all_goals first | (intro h; exact absurd h (by decide)) | intro _) | (apply WO.cll; exact rfl; exact rfl; exact rfl) | (apply WO.hlv; exact rfl; exact rfl; exact rfl) | (apply WO.hpv; exact rfl; exact rfl; exact rfl) | (apply WO.hnv; exact rfl; exact rfl; exact rfl) | (apply WO.pl; exact rfl; exact rfl) | (apply WO.pp; exact rfl; exact rfl)
    all_goals refine ⟨.inr rfl, rfl, _, rfl, congrArg (AV.int .i64) ?_, rfl⟩
    all_goals simp_all [chk, known, kLeast, kMost]
    all_goals omega
  · simp only [known, not_or] at h2
    repeat' first | apply W.seq | apply SQn | apply W.region | apply WO.nil | apply W.block | apply W.ret | apply W.exit | apply W.skip | apply SQr | apply SQe | apply BQn | apply BQr | apply BQe | (apply BQo; exact rfl) | apply LQe | apply LQr | (apply W.drawro; exact rfl) | apply W.draw | apply WD.nil | (apply WD.gT; exact rfl) | (apply WD.gF; exact rfl) | (apply WD.sT; exact rfl) | (apply WD.sF; exact rfl) | (apply WD.sU; exact rfl) | (apply WD.pure1; exact rfl) | (apply WD.load1; exact rfl; exact rfl; exact rfl) | (apply WD.new1; exact rfl) | (apply WD.clb; exact rfl; exact rfl; exact rfl; exact rfl; all_goals first | (intro h; exact absurd h (by decide)) | intro _) | (apply WD.cl0; exact rfl; exact rfl; exact rfl; exact rfl) | (apply WD.cl1; exact rfl; exact rfl; exact rfl; exact rfl) | (apply W.condT; exact rfl) | (apply W.condF; exact rfl) | (apply W.cond; exact rfl; all_goals intro _) | (apply WO.gT; exact rfl) | (apply WO.gF; exact rfl) | (apply WO.sT; exact rfl) | (apply WO.sF; exact rfl) | (apply WO.sU; exact rfl) | (apply WO.lss; exact rfl; exact rfl; all_goals first | (intro _; exfalso; omega) | intro _) | (apply WO.gtr; exact rfl; exact rfl; all_goals first | (intro _; exfalso; omega) | intro _) | (apply WO.eql; exact rfl; exact rfl; all_goals first | (intro _; exfalso; omega) | intro _) | (apply WO.neq; exact rfl; exact rfl; all_goals first | (intro _; exfalso; omega) | intro _) | (apply WO.pkT; exact rfl; exact rfl) | (apply WO.pkF; exact rfl; exact rfl) | (apply WO.seql; exact rfl; exact rfl; all_goals first | (intro h; exact absurd h (by decide)) | (intro h; exact absurd rfl h) | (intro h; contradiction) | intro _) | (apply WO.sneq; exact rfl; exact rfl; all_goals first | (intro h; exact absurd h (by decide)) | (intro h; exact absurd rfl h) | (intro h; contradiction) | intro _) | (apply WO.clb; exact rfl; exact rfl; exact rfl; all_goals first | (intro h; exact absurd h (by decide)) | intro _) | (apply WO.cll; exact rfl; exact rfl; exact rfl) | (apply WO.hlv; exact rfl; exact rfl; exact rfl) | (apply WO.hpv; exact rfl; exact rfl; exact rfl) | (apply WO.hnv; exact rfl; exact rfl; exact rfl) | (apply WO.pl; exact rfl; exact rfl) | (apply WO.pp; exact rfl; exact rfl)
    all_goals refine ⟨.inr rfl, rfl, _, rfl, congrArg (AV.int .i64) ?_, rfl⟩
    all_goals simp_all [chk, known]

/-- What a mark is worth. -/
def worth (k : List UInt8) (v : Int) : Int := if k = sTime then IntKind.i64.wrap (0 - v) else if known k then v else -864000000
def specWorth : Spec := fun
  | [.agg [.str k, .int .i64 v, .str _]], h => some ⟨.int .i64 (worth k v), h, []⟩
  | _, _ => none
def TKinds : List (Nat × Spec) := [(113, specKinds)]
set_option maxHeartbeats 4000000 in
theorem w184 (hft : F = FT) (k : List UInt8) (v : Int) (r : List UInt8) : Run (mk0 TKinds inv F) 184 [mkM k v r] [] ⟨.int .i64 (worth k v), [], []⟩ := by
  refine run_of_W (show F 184 = _ from by rw [hft]; exact ft184) (by simp) ?_
  unfold b184
  simp only [List.map_cons, List.map_nil, List.getElem?_cons_zero, List.getElem?_cons_succ, List.getElem?_nil, Option.getD_some, Option.getD_none]
  rcases kind_cases k with rfl | rfl | rfl | rfl | ⟨h1, h2⟩
  · repeat' first | apply W.seq | apply SQn | apply W.region | apply WO.nil | apply W.block | apply W.ret | apply W.exit | apply W.skip | apply SQr | apply SQe | apply BQn | apply BQr | apply BQe | (apply BQo; exact rfl) | apply LQe | apply LQr | (apply W.drawro; exact rfl) | apply W.draw | apply WD.nil | (apply WD.gT; exact rfl) | (apply WD.gF; exact rfl) | (apply WD.sT; exact rfl) | (apply WD.sF; exact rfl) | (apply WD.sU; exact rfl) | (apply WD.pure1; exact rfl) | (apply WD.load1; exact rfl; exact rfl; exact rfl) | (apply WD.store1; exact rfl; exact rfl; exact rfl) | (apply WD.new1; exact rfl) | (apply WD.look1; exact rfl; exact rfl) | (apply WD.clb; exact rfl; exact rfl; exact rfl; exact rfl; all_goals first | (intro h; exact absurd h (by decide)) | intro _) | (apply WD.cl0; exact rfl; exact rfl; exact rfl; exact rfl) | (apply WD.cl1; exact rfl; exact rfl; exact rfl; exact rfl) | (apply W.condT; exact rfl) | (apply W.condF; exact rfl) | (apply W.cond; exact rfl; all_goals intro _) | (apply WO.lkN; exact rfl; exact rfl; exact rfl; exact rfl; exact rfl) | (apply WO.clb; exact rfl; exact rfl; exact rfl; all_goals first | (intro h; exact absurd h (by decide)) | intro _) | (apply WO.cll; exact rfl; exact rfl; exact rfl) | (apply WO.neg; exact rfl; omega) | (apply WO.hlv; exact rfl; exact rfl; exact rfl) | (apply WO.hpv; exact rfl; exact rfl; exact rfl) | (apply WO.hnv; exact rfl; exact rfl; exact rfl) | (apply WO.pl; exact rfl; exact rfl) | (apply WO.pp; exact rfl; exact rfl)
    exact ⟨.inr rfl, rfl, _, rfl, rfl, rfl⟩
  · repeat' first | apply W.seq | apply SQn | apply W.region | apply WO.nil | apply W.block | apply W.ret | apply W.exit | apply W.skip | apply SQr | apply SQe | apply BQn | apply BQr | apply BQe | (apply BQo; exact rfl) | apply LQe | apply LQr | (apply W.drawro; exact rfl) | apply W.draw | apply WD.nil | (apply WD.gT; exact rfl) | (apply WD.gF; exact rfl) | (apply WD.sT; exact rfl) | (apply WD.sF; exact rfl) | (apply WD.sU; exact rfl) | (apply WD.pure1; exact rfl) | (apply WD.load1; exact rfl; exact rfl; exact rfl) | (apply WD.store1; exact rfl; exact rfl; exact rfl) | (apply WD.new1; exact rfl) | (apply WD.look1; exact rfl; exact rfl) | (apply WD.clb; exact rfl; exact rfl; exact rfl; exact rfl; all_goals first | (intro h; exact absurd h (by decide)) | intro _) | (apply WD.cl0; exact rfl; exact rfl; exact rfl; exact rfl) | (apply WD.cl1; exact rfl; exact rfl; exact rfl; exact rfl) | (apply W.condT; exact rfl) | (apply W.condF; exact rfl) | (apply W.cond; exact rfl; all_goals intro _) | (apply WO.clb; exact rfl; exact rfl; exact rfl; all_goals first | (intro h; exact absurd h (by decide)) | intro _) | (apply WO.cll; exact rfl; exact rfl; exact rfl) | (apply WO.neg; exact rfl; omega) | (apply WO.hlv; exact rfl; exact rfl; exact rfl) | (apply WO.hpv; exact rfl; exact rfl; exact rfl) | (apply WO.hnv; exact rfl; exact rfl; exact rfl) | (apply WO.pl; exact rfl; exact rfl) | (apply WO.pp; exact rfl; exact rfl)
    exact ⟨.inr rfl, rfl, _, rfl, rfl, rfl⟩
  · repeat' first | apply W.seq | apply SQn | apply W.region | apply WO.nil | apply W.block | apply W.ret | apply W.exit | apply W.skip | apply SQr | apply SQe | apply BQn | apply BQr | apply BQe | (apply BQo; exact rfl) | apply LQe | apply LQr | (apply W.drawro; exact rfl) | apply W.draw | apply WD.nil | (apply WD.gT; exact rfl) | (apply WD.gF; exact rfl) | (apply WD.sT; exact rfl) | (apply WD.sF; exact rfl) | (apply WD.sU; exact rfl) | (apply WD.pure1; exact rfl) | (apply WD.load1; exact rfl; exact rfl; exact rfl) | (apply WD.store1; exact rfl; exact rfl; exact rfl) | (apply WD.new1; exact rfl) | (apply WD.look1; exact rfl; exact rfl) | (apply WD.clb; exact rfl; exact rfl; exact rfl; exact rfl; all_goals first | (intro h; exact absurd h (by decide)) | intro _) | (apply WD.cl0; exact rfl; exact rfl; exact rfl; exact rfl) | (apply WD.cl1; exact rfl; exact rfl; exact rfl; exact rfl) | (apply W.condT; exact rfl) | (apply W.condF; exact rfl) | (apply W.cond; exact rfl; all_goals intro _) | (apply WO.clb; exact rfl; exact rfl; exact rfl; all_goals first | (intro h; exact absurd h (by decide)) | intro _) | (apply WO.cll; exact rfl; exact rfl; exact rfl) | (apply WO.neg; exact rfl; omega) | (apply WO.hlv; exact rfl; exact rfl; exact rfl) | (apply WO.hpv; exact rfl; exact rfl; exact rfl) | (apply WO.hnv; exact rfl; exact rfl; exact rfl) | (apply WO.pl; exact rfl; exact rfl) | (apply WO.pp; exact rfl; exact rfl)
    exact ⟨.inr rfl, rfl, _, rfl, rfl, rfl⟩
  · repeat' first | apply W.seq | apply SQn | apply W.region | apply WO.nil | apply W.block | apply W.ret | apply W.exit | apply W.skip | apply SQr | apply SQe | apply BQn | apply BQr | apply BQe | (apply BQo; exact rfl) | apply LQe | apply LQr | (apply W.drawro; exact rfl) | apply W.draw | apply WD.nil | (apply WD.gT; exact rfl) | (apply WD.gF; exact rfl) | (apply WD.sT; exact rfl) | (apply WD.sF; exact rfl) | (apply WD.sU; exact rfl) | (apply WD.pure1; exact rfl) | (apply WD.load1; exact rfl; exact rfl; exact rfl) | (apply WD.store1; exact rfl; exact rfl; exact rfl) | (apply WD.new1; exact rfl) | (apply WD.look1; exact rfl; exact rfl) | (apply WD.clb; exact rfl; exact rfl; exact rfl; exact rfl; all_goals first | (intro h; exact absurd h (by decide)) | intro _) | (apply WD.cl0; exact rfl; exact rfl; exact rfl; exact rfl) | (apply WD.cl1; exact rfl; exact rfl; exact rfl; exact rfl) | (apply W.condT; exact rfl) | (apply W.condF; exact rfl) | (apply W.cond; exact rfl; all_goals intro _) | (apply WO.clb; exact rfl; exact rfl; exact rfl; all_goals first | (intro h; exact absurd h (by decide)) | intro _) | (apply WO.cll; exact rfl; exact rfl; exact rfl) | (apply WO.neg; exact rfl; omega) | (apply WO.hlv; exact rfl; exact rfl; exact rfl) | (apply WO.hpv; exact rfl; exact rfl; exact rfl) | (apply WO.hnv; exact rfl; exact rfl; exact rfl) | (apply WO.pl; exact rfl; exact rfl) | (apply WO.pp; exact rfl; exact rfl)
    exact ⟨.inr rfl, rfl, _, rfl, rfl, rfl⟩
  · simp only [known, not_or] at h2
    have b1 : (k == sTime) = false := beq_eq_false_iff_ne.2 h2.1
    have b2 : (k == sLength) = false := beq_eq_false_iff_ne.2 h2.2.1
    have b3 : (k == sPoints) = false := beq_eq_false_iff_ne.2 h2.2.2
    repeat' first | apply W.seq | apply SQn | apply W.region | apply WO.nil | apply W.block | apply W.ret | apply W.exit | apply W.skip | apply SQr | apply SQe | apply BQn | apply BQr | apply BQe | (apply BQo; exact rfl) | apply LQe | apply LQr | (apply W.drawro; exact rfl) | apply W.draw | apply WD.nil | (apply WD.gT; exact rfl) | (apply WD.gF; exact rfl) | (apply WD.sT; exact rfl) | (apply WD.sF; exact rfl) | (apply WD.sU; exact rfl) | (apply WD.pure1; exact rfl) | (apply WD.load1; exact rfl; exact rfl; exact rfl) | (apply WD.store1; exact rfl; exact rfl; exact rfl) | (apply WD.new1; exact rfl) | (apply WD.look1; exact rfl; exact rfl) | (apply WD.clb; exact rfl; exact rfl; exact rfl; exact rfl; all_goals first | (intro h; exact absurd h (by decide)) | intro _) | (apply WD.cl0; exact rfl; exact rfl; exact rfl; exact rfl) | (apply WD.cl1; exact rfl; exact rfl; exact rfl; exact rfl) | (apply W.condT; exact rfl) | (apply W.condF; exact rfl) | (apply W.cond; exact rfl; all_goals intro _) | (apply WO.lkN; exact rfl; exact rfl; exact rfl; exact rfl; simp only [findA, keyEq, b1, b2, b3]) | (apply WO.clb; exact rfl; exact rfl; exact rfl; all_goals first | (intro h; exact absurd h (by decide)) | intro _) | (apply WO.cll; exact rfl; exact rfl; exact rfl) | (apply WO.neg; exact rfl; omega) | (apply WO.hlv; exact rfl; exact rfl; exact rfl) | (apply WO.hpv; exact rfl; exact rfl; exact rfl) | (apply WO.hnv; exact rfl; exact rfl; exact rfl) | (apply WO.pl; exact rfl; exact rfl) | (apply WO.pp; exact rfl; exact rfl)
    exact ⟨.inr rfl, rfl, _, rfl, congrArg (AV.int .i64) (by simp [worth, known, h2]), rfl⟩

/-- -1 as the first number is greater. -/
def cmpW (x y : Int) : Int := if y < x then -1 else if x < y then 1 else 0
def specCmp : Spec := fun
  | [.agg [.str k, .int .i64 v, .str _], .agg [.str k', .int .i64 v', .str _]], h => some ⟨.int .i64 (cmpW (worth k v) (worth k' v')), h, []⟩
  | _, _ => none
def TCmp : List (Nat × Spec) := [(184, specWorth)]
theorem w115 (hft : F = FT) (k : List UInt8) (v : Int) (r : List UInt8) (k' : List UInt8) (v' : Int) (r' : List UInt8) : Run (mk0 TCmp inv F) 115 [mkM k v r, mkM k' v' r'] [] ⟨.int .i64 (cmpW (worth k v) (worth k' v')), [], []⟩ := by
  refine run_of_W (show F 115 = _ from by rw [hft]; exact ft115) (by simp) ?_
  unfold b115
  simp only [List.map_cons, List.map_nil, List.getElem?_cons_zero, List.getElem?_cons_succ, List.getElem?_nil, Option.getD_some, Option.getD_none]
  repeat' first | apply W.seq | apply SQn | apply W.region | apply WO.nil | apply W.block | apply W.ret | apply W.exit | apply W.skip | apply SQr | apply SQe | apply BQn | apply BQr | apply BQe | (apply BQo; exact rfl) | apply LQe | apply LQr | (apply W.drawro; exact rfl) | apply W.draw | apply WD.nil | (apply WD.gT; exact rfl) | (apply WD.gF; exact rfl) | (apply WD.sT; exact rfl) | (apply WD.sF; exact rfl) | (apply WD.sU; exact rfl) | (apply WD.pure1; exact rfl) | (apply WD.load1; exact rfl; exact rfl; exact rfl) | (apply WD.new1; exact rfl) | (apply WD.clb; exact rfl; exact rfl; exact rfl; exact rfl; all_goals first | (intro h; exact absurd h (by decide)) | intro _) | (apply WD.cl0; exact rfl; exact rfl; exact rfl; exact rfl) | (apply WD.cl1; exact rfl; exact rfl; exact rfl; exact rfl) | (apply W.condT; exact rfl) | (apply W.condF; exact rfl) | (apply W.cond; exact rfl; all_goals intro _) | (apply WO.lss; exact rfl; exact rfl; all_goals first | (intro _; exfalso; omega) | intro _) | (apply WO.gtr; exact rfl; exact rfl; all_goals first | (intro _; exfalso; omega) | intro _) | (apply WO.clb; exact rfl; exact rfl; exact rfl; all_goals first | (intro h; exact absurd h (by decide)) | intro _) | (apply WO.cll; exact rfl; exact rfl; exact rfl) | (apply WO.hlv; exact rfl; exact rfl; exact rfl) | (apply WO.hpv; exact rfl; exact rfl; exact rfl) | (apply WO.hnv; exact rfl; exact rfl; exact rfl) | (apply WO.pl; exact rfl; exact rfl) | (apply WO.pp; exact rfl; exact rfl)
  all_goals refine ⟨.inr rfl, rfl, _, rfl, congrArg (AV.int .i64) ?_, rfl⟩
  all_goals unfold cmpW
  · rw [if_pos (by assumption)]
  · rw [if_neg (by omega), if_pos (by assumption)]
  · rw [if_neg (by omega), if_neg (by omega)]

def differ (k k' : List UInt8) : Bool := decide (k ≠ k' ∧ k ≠ sNone ∧ k' ≠ sNone)
def specDiffer : Spec := fun
  | [.agg [.str k, .int .i64 _, .str _], .agg [.str k', .int .i64 _, .str _]], h => some ⟨.bool (differ k k'), h, []⟩
  | _, _ => none
theorem w114 {T : List (Nat × Spec)} (hft : F = FT) (k : List UInt8) (v : Int) (r : List UInt8) (k' : List UInt8) (v' : Int) (r' : List UInt8) : Run (mk0 T inv F) 114 [mkM k v r, mkM k' v' r'] [] ⟨.bool (differ k k'), [], []⟩ := by
  refine run_of_W (show F 114 = _ from by rw [hft]; exact ft114) (by simp) ?_
  unfold b114
  simp only [List.map_cons, List.map_nil, List.getElem?_cons_zero, List.getElem?_cons_succ, List.getElem?_nil, Option.getD_some, Option.getD_none]
  repeat' first | apply W.seq | apply SQn | apply W.region | apply WO.nil | apply W.block | apply W.ret | apply W.exit | apply W.skip | apply SQr | apply SQe | apply BQn | apply BQr | apply BQe | (apply BQo; exact rfl) | apply LQe | apply LQr | (apply W.condT; exact rfl) | (apply W.condF; exact rfl) | (apply W.cond; exact rfl; all_goals intro _) | (apply WO.gT; exact rfl) | (apply WO.gF; exact rfl) | (apply WO.sT; exact rfl) | (apply WO.sF; exact rfl) | (apply WO.sU; exact rfl) | (apply WO.neq; exact rfl; exact rfl; all_goals first | (intro _; exfalso; omega) | intro _) | (apply WO.pkT; exact rfl; exact rfl) | (apply WO.pkF; exact rfl; exact rfl) | (apply WO.sneq; exact rfl; exact rfl; all_goals first | (intro h; exact absurd h (by decide)) | (intro h; exact absurd rfl h) | (intro h; contradiction) | intro _) | (apply WO.hlv; exact rfl; exact rfl; exact rfl) | (apply WO.hpv; exact rfl; exact rfl; exact rfl) | (apply WO.hnv; exact rfl; exact rfl; exact rfl) | (apply WO.pl; exact rfl; exact rfl) | (apply WO.pp; exact rfl; exact rfl)
  all_goals exact ⟨.inr rfl, rfl, _, rfl, congrArg AV.bool (by simp_all [differ]), rfl⟩

end Go.Ab.Ch1


/-
  Own work: marks of chapter 1: rounding, winds, the law's own helpers.
-/
namespace Go.Ab.Ch1
variable {inv : InvF} {F : FuncId → Option IFunc}

def isClass (c : List UInt8) : Prop := c ∈ [sExact, sHund, sTenths, sCent]
instance (c : List UInt8) : Decidable (isClass c) := by unfold isClass; infer_instance
theorem chk_zero {k : List UInt8} {v : Int} {r : List UInt8} (h : chk k v r = 0) : (k = sNone ∧ r ∈ reasons ∧ v = 0) ∨ (k ≠ sNone ∧ known k ∧ r = [] ∧ kLeast k ≤ v ∧ v ≤ kMost k) := by
  unfold chk at h
  split at h
  · rename_i h1
    split at h
    · cases h
    · rename_i h2
      split at h
      · cases h
      · rename_i h3
        exact .inl ⟨h1, Classical.not_not.1 h2, Classical.not_not.1 h3⟩
  · rename_i h1
    split at h
    · cases h
    · rename_i h2
      split at h
      · cases h
      · rename_i h3
        split at h
        · cases h
        · rename_i h4
          exact .inr ⟨h1, Classical.not_not.1 h2, Classical.not_not.1 h3, by omega, by omega⟩

end Go.Ab.Ch1


/-
  Own work: marks of chapter 1: the reference's rounding, winds, the law's own helpers.
-/
namespace Go.Ab.Ch1
variable {inv : InvF} {F : FuncId → Option IFunc}

def specMost : Spec := fun
  | [.str k], h => some ⟨.int .i64 (kMost k), h, []⟩
  | _, _ => none
end Go.Ab.Ch1


/-
  Own work: marks of chapter 1: winds, the reference's order, MarkChecks.
-/
namespace Go.Ab.Ch1
variable {inv : InvF} {F : FuncId → Option IFunc}

def specOut : Spec := fun
  | [.int .i64 x, .int .i64 lo, .int .i64 hi], h => some ⟨.bool (decide (x < lo) || decide (hi < x)), h, []⟩
  | _, _ => none
theorem worth_time {v : Int} (h0 : 0 ≤ v) (h1 : v ≤ 863999999) : worth sTime v = -v := by
  unfold worth
  rw [if_pos rfl, show 0 - v = -v from by omega]
  exact i64_wrap (by omega)

set_option maxHeartbeats 8000000 in
theorem w39 {T : List (Nat × Spec)} (hft : F = FT) (k : List UInt8) (v : Int) (r : List UInt8) (k' : List UInt8) (v' : Int) (r' : List UInt8) (h : chk k v r = 0) (h' : chk k' v' r' = 0) (hd : differ k k' = false) : Run (mk0 T inv F) 39 [mkM k v r, mkM k' v' r'] [] ⟨.int .i64 (cmpW (worth k v) (worth k' v')), [], []⟩ := by
  refine run_of_W (show F 39 = _ from by rw [hft]; exact ft39) (by simp) ?_
  unfold b39
  simp only [List.map_cons, List.map_nil, List.getElem?_cons_zero, List.getElem?_cons_succ, List.getElem?_nil, Option.getD_some, Option.getD_none]
  have w1 : worth sLength v = v := rfl
  have w2 : worth sLength v' = v' := rfl
  have w3 : worth sPoints v = v := rfl
  have w4 : worth sPoints v' = v' := rfl
  have w5 : ∀ z, worth sNone z = -864000000 := fun _ => rfl
  rcases chk_zero h with ⟨rfl, hr, rfl⟩ | ⟨hk, rfl | rfl | rfl, rfl, hl, hm⟩
  all_goals rcases chk_zero h' with ⟨rfl, hr', rfl⟩ | ⟨hk', rfl | rfl | rfl, rfl, hl', hm'⟩
  all_goals try simp only [kLeast, kMost] at hl hm
  all_goals try simp (decide := true) at hl hm
  all_goals try simp only [kLeast, kMost] at hl' hm'
  all_goals try simp (decide := true) at hl' hm'
  all_goals first | (exfalso; revert hd; decide) | skip
  all_goals try rw [worth_time (v := v) (by omega) (by omega)]
  all_goals try rw [worth_time (v := v') (by omega) (by omega)]
  all_goals try simp only [w1, w2, w3, w4, w5]
  all_goals
    repeat' first | apply W.seq | apply SQn | apply W.region | apply WO.nil | apply W.block | apply W.ret | apply W.exit | apply W.skip | apply SQr | apply SQe | apply BQn | apply BQr | apply BQe | (apply BQo; exact rfl) | apply LQe | apply LQr | (apply W.drawro; exact rfl) | apply W.draw | apply WD.nil | (apply WD.gT; exact rfl) | (apply WD.gF; exact rfl) | (apply WD.sT; exact rfl) | (apply WD.sF; exact rfl) | (apply WD.sU; exact rfl) | (apply WD.pure1; exact rfl) | (apply WD.load1; exact rfl; exact rfl; exact rfl) | (apply WD.new1; exact rfl) | (apply W.condT; exact rfl) | (apply W.condF; exact rfl) | (apply W.cond; exact rfl; all_goals intro _) | (apply WO.gT; exact rfl) | (apply WO.gF; exact rfl) | (apply WO.sT; exact rfl) | (apply WO.sF; exact rfl) | (apply WO.sU; exact rfl) | (apply WO.lss; exact rfl; exact rfl; all_goals first | (intro _; exfalso; omega) | intro _) | (apply WO.gtr; exact rfl; exact rfl; all_goals first | (intro _; exfalso; omega) | intro _) | (apply WO.eql; exact rfl; exact rfl; all_goals first | (intro _; exfalso; omega) | intro _) | (apply WO.pkT; exact rfl; exact rfl) | (apply WO.pkF; exact rfl; exact rfl) | (apply WO.seql; exact rfl; exact rfl; all_goals first | (intro h; exact absurd h (by decide)) | (intro h; exact absurd rfl h) | (intro h; contradiction) | intro _) | (apply WO.hlv; exact rfl; exact rfl; exact rfl) | (apply WO.hpv; exact rfl; exact rfl; exact rfl) | (apply WO.hnv; exact rfl; exact rfl; exact rfl) | (apply WO.pl; exact rfl; exact rfl) | (apply WO.pp; exact rfl; exact rfl)
  all_goals refine ⟨.inr rfl, rfl, _, rfl, congrArg (AV.int .i64) ?_, rfl⟩
  all_goals unfold cmpW
  all_goals first | rfl | (rw [if_pos (by omega)]; done) | (rw [if_neg (by omega), if_pos (by omega)]; done) | (rw [if_neg (by omega), if_neg (by omega)]; done)

theorem w34 {T : List (Nat × Spec)} (hft : F = FT) (k : List UInt8) (v : Int) (r : List UInt8) : Run (mk0 T inv F) 34 [mkM k v r] [] ⟨.bool (decide (k.length ≤ 40 ∧ r.length ≤ 40)), [], []⟩ := by
  refine run_of_W (show F 34 = _ from by rw [hft]; exact ft34) (by simp) ?_
  unfold b34
  simp only [List.map_cons, List.map_nil, List.getElem?_cons_zero, List.getElem?_cons_succ, List.getElem?_nil, Option.getD_some, Option.getD_none]
  repeat' first | apply W.seq | apply SQn | apply W.region | apply WO.nil | apply W.block | apply W.ret | apply W.exit | apply W.skip | apply SQr | apply SQe | apply BQn | apply BQr | apply BQe | (apply BQo; exact rfl) | apply LQe | apply LQr | (apply W.condT; exact rfl) | (apply W.condF; exact rfl) | (apply W.cond; exact rfl; all_goals intro _) | (apply WO.gT; exact rfl) | (apply WO.gF; exact rfl) | (apply WO.sT; exact rfl) | (apply WO.sF; exact rfl) | (apply WO.sU; exact rfl) | (apply WO.leq; exact rfl; exact rfl; all_goals first | (intro _; exfalso; omega) | intro _) | (apply WO.pkT; exact rfl; exact rfl) | (apply WO.pkF; exact rfl; exact rfl) | (apply WO.hlv; exact rfl; exact rfl; exact rfl) | (apply WO.hpv; exact rfl; exact rfl; exact rfl) | (apply WO.hnv; exact rfl; exact rfl; exact rfl) | (apply WO.pl; exact rfl; exact rfl) | (apply WO.pp; exact rfl; exact rfl)
  all_goals exact ⟨.inr rfl, rfl, _, rfl, congrArg AV.bool (by first | (rw [eq_comm, decide_eq_true_eq]; omega) | (rw [eq_comm, decide_eq_false_iff_not]; omega)), rfl⟩
end Go.Ab.Ch1


/-
  Own work: stadionlaw01.MarkChecks answers true.
-/
namespace Go.Ab.Ch1
variable {inv : InvF} {F : FuncId → Option IFunc}

def specAwake : Spec := fun
  | [], h => some ⟨.bool true, h, []⟩
  | _, _ => none
def specBrief : Spec := fun
  | [.agg [.str k, .int .i64 _, .str r]], h => some ⟨.bool (decide (k.length ≤ 40 ∧ r.length ≤ 40)), h, []⟩
  | _, _ => none
def specRefCmp : Spec := fun
  | [.agg [.str k, .int .i64 v, .str r], .agg [.str k', .int .i64 v', .str r']], h => if chk k v r = 0 ∧ chk k' v' r' = 0 ∧ differ k k' = false then some ⟨.int .i64 (cmpW (worth k v) (worth k' v')), h, []⟩ else none
  | _, _ => none
end Go.Ab.Ch1


/-
  Own work: stadionlaw01.MarkChecks answers true: the whole law.
-/
namespace Go.Ab.Ch1

end Go.Ab.Ch1


/-
  Own work: the contracts of marks as a table.
-/
namespace Go.Ab
variable {ks : List Nat} {N : Nat}
theorem Rn.aggL {l l0 : List AV} (h : RnL ks N l l0) : Rn ks N (.agg l) (.agg l0) := .agg h.1 h.2
end Go.Ab
namespace Go.Ab.Ch1
open Go.Proofs

theorem index185 : SpecOK Tryz.prog gl 185 specIndex := by
  intro xs h r hq
  unfold specIndex at hq
  split at hq
  · split at hq
    · rename_i l hl
      split at hq
      · rename_i hlen
        cases hq
        obtain ⟨S, cap, hf⟩ := (strsAt_sl hl).fr (fun _ => rfl)
        exact ent_run0 seat tab_nil (w185 (T := []) rfl l _ cap hlen) (.cons hf (.cons (.same rfl) .nil)) rfl (.inr rfl)
      · cases hq
    · cases hq
  · cases hq
theorem contains116 : SpecOK Tryz.prog gl 116 specContains := by
  intro xs h r hq
  unfold specContains at hq
  split at hq
  · split at hq
    · rename_i l hl
      split at hq
      · rename_i hlen
        cases hq
        obtain ⟨S, cap, hf⟩ := (strsAt_sl hl).fr (fun _ => rfl)
        exact ent_run0 seat (tab_cons index185 tab_nil) (w116 (T := []) rfl l _ cap hlen) (.cons hf (.cons (.same rfl) .nil)) rfl (.inr rfl)
      · cases hq
    · cases hq
  · cases hq
theorem reason112 : SpecOK Tryz.prog gl 112 specReason := by
  intro xs h r hq
  unfold specReason at hq
  split at hq
  · cases hq; exact ent_run0 seat (tab_cons contains116 tab_nil) (w112 (T := []) rfl _) (FrL.same rfl) rfl (.inl rfl)
  · cases hq
theorem reason109 : SpecOK Tryz.prog gl 109 specReason := by
  intro xs h r hq
  unfold specReason at hq
  split at hq
  · cases hq; exact ent_run0 seat tab_nil (w109 (T := []) rfl _) (FrL.same rfl) rfl (.inl rfl)
  · cases hq
theorem kinds113 : SpecOK Tryz.prog gl 113 specKinds := by
  intro xs h r hq
  unfold specKinds at hq
  split at hq
  · cases hq
    have hk : ∀ (i b : Nat), ([0, 1, 2, 3] : List Nat)[i]? = some b → Rn [0, 1, 2, 3] h.length (.map b) (.map (h.length + i)) := fun i b hi => .map hi
    refine ent_run seat tab_nil (w113 (T := []) rfl) (FrL.nil (S := [])) (ks := [0, 1, 2, 3]) (by decide) (.map (i := 0) rfl) rfl (fun i b o1 hi ho => ?_) (.inl rfl)
    match i, hi, ho with
    | 0, hi, ho =>
      cases hi; cases ho
      refine ⟨_, rfl, .map (.same rfl) ?_, .inl rfl⟩
      refine .cons (.aggL (.cons (.same rfl) (.cons (.same rfl) (.cons (.same rfl) (.cons (hk 1 1 rfl) (.cons (.same rfl) .nil)))))) (.cons (.aggL (.cons (.same rfl) (.cons (.same rfl) (.cons (.same rfl) (.cons (hk 2 2 rfl) (.cons (.same rfl) .nil)))))) (.cons (.aggL (.cons (.same rfl) (.cons (.same rfl) (.cons (.same rfl) (.cons (hk 3 3 rfl) (.cons (.same rfl) .nil)))))) .nil))
    | 1, hi, ho => cases hi; cases ho; exact ⟨_, rfl, .map (.same rfl) (.same rfl), .inl rfl⟩
    | 2, hi, ho => cases hi; cases ho; exact ⟨_, rfl, .map (.same rfl) (.same rfl), .inl rfl⟩
    | 3, hi, ho => cases hi; cases ho; exact ⟨_, rfl, .map (.same rfl) (.same rfl), .inl rfl⟩
  · cases hq
theorem out95 : SpecOK Tryz.prog gl 95 specOut := s95_ok

theorem chk36 : SpecOK Tryz.prog gl 36 specChk := by
  intro xs h r hq
  unfold specChk at hq
  split at hq
  · cases hq; exact ent_run0 seat (tab_cons kinds113 (tab_cons reason112 (tab_cons when97 (tab_cons first96 (tab_cons out95 tab_nil))))) (w36 rfl _ _ _) (FrL.same rfl) rfl (.inl rfl)
  · cases hq
theorem least110 : SpecOK Tryz.prog gl 110 (fun
  | [.str k], h => some ⟨.int .i64 (kLeast k), h, []⟩
  | _, _ => none) := by
  intro xs h r hq
  dsimp only at hq
  split at hq
  · cases hq; exact ent_run0 seat tab_nil (w110 (T := []) rfl _) (FrL.same rfl) rfl (.inl rfl)
  · cases hq
theorem most111 : SpecOK Tryz.prog gl 111 specMost := by
  intro xs h r hq
  unfold specMost at hq
  split at hq
  · cases hq; exact ent_run0 seat tab_nil (w111 (T := []) rfl _) (FrL.same rfl) rfl (.inl rfl)
  · cases hq
theorem chk35 : SpecOK Tryz.prog gl 35 specChk := by
  intro xs h r hq
  unfold specChk at hq
  split at hq
  · cases hq; exact ent_run0 seat (tab_cons reason109 (tab_cons least110 (tab_cons most111 tab_nil))) (w35 rfl _ _ _) (FrL.same rfl) rfl (.inl rfl)
  · cases hq
theorem worth184 : SpecOK Tryz.prog gl 184 specWorth := by
  intro xs h r hq
  unfold specWorth at hq
  split at hq
  · cases hq; exact ent_run0 seat (tab_cons kinds113 tab_nil) (w184 rfl _ _ _) (FrL.same rfl) rfl (.inl rfl)
  · cases hq
theorem cmp115 : SpecOK Tryz.prog gl 115 specCmp := by
  intro xs h r hq
  unfold specCmp at hq
  split at hq
  · cases hq; exact ent_run0 seat (tab_cons worth184 tab_nil) (w115 rfl _ _ _ _ _ _) (FrL.same rfl) rfl (.inl rfl)
  · cases hq
theorem differ114 : SpecOK Tryz.prog gl 114 specDiffer := by
  intro xs h r hq
  unfold specDiffer at hq
  split at hq
  · cases hq; exact ent_run0 seat tab_nil (w114 (T := []) rfl _ _ _ _ _ _) (FrL.same rfl) rfl (.inl rfl)
  · cases hq
theorem refCmp39 : SpecOK Tryz.prog gl 39 specRefCmp := by
  intro xs h r hq
  unfold specRefCmp at hq
  split at hq
  · split at hq
    · rename_i hc
      cases hq; exact ent_run0 seat tab_nil (w39 (T := []) rfl _ _ _ _ _ _ hc.1 hc.2.1 hc.2.2) (FrL.same rfl) rfl (.inl rfl)
    · cases hq
  · cases hq
theorem brief34 : SpecOK Tryz.prog gl 34 specBrief := by
  intro xs h r hq
  unfold specBrief at hq
  split at hq
  · cases hq; exact ent_run0 seat tab_nil (w34 (T := []) rfl _ _ _) (FrL.same rfl) rfl (.inl rfl)
  · cases hq
theorem awake18 : SpecOK Tryz.prog gl 18 specAwake := by
  intro xs h r hq
  unfold specAwake at hq
  split at hq
  · exact s18_ok _ _ _ hq
  · cases hq
end Go.Ab.Ch1


/-
  Own work: the resolved code of some functions of chapter 1: shares and the stable sort.
-/
namespace Go.Ab.Ch1
set_option maxRecDepth 1000000
/-- stadion/stadionlaw01.list -/
def b21 : ICode :=
 .seq (.region [⟨(.p 4), .mv (.c (.bool false)), none⟩])
  (.seq (.seq (.region [⟨(.l 9), .mv (.p 2), none⟩,
      ⟨(.l 10), .bin .neq (.l 9) (.c (.int .i64 (0))), none⟩])
    (.cond (.l 10)
     (.seq (.region [⟨(.l 11), .mv (.p 0), none⟩,
        ⟨(.l 12), .len .sl (.l 11), none⟩,
        ⟨(.l 13), .bin .eql (.l 12) (.c (.int .i64 (0))), none⟩,
        ⟨(.l 14), .mv (.l 13), none⟩,
        ⟨(.l 15), .mv (.p 1), some ((.l 14), true)⟩,
        ⟨(.l 16), .mv (.p 2), some ((.l 14), true)⟩,
        ⟨(.l 17), .bin .eql (.l 15) (.l 16), some ((.l 14), true)⟩,
        ⟨(.l 18), .pick (.l 14) (.l 17) (.c (.bool false)), none⟩,
        ⟨(.p 4), .mv (.l 18), none⟩])
      (.ret))
     (.skip)))
   (.seq (.region [⟨(.l 19), .mv (.p 1), none⟩,
      ⟨(.l 20), .bin .eql (.l 19) (.c (.int .i64 (0))), none⟩,
      ⟨(.l 21), .mv (.l 20), none⟩,
      ⟨(.l 22), .mv (.p 0), some ((.l 21), true)⟩,
      ⟨(.l 23), .mv (.p 3), some ((.l 21), true)⟩,
      ⟨(.l 24), .call (.c (.fn (.func 93) [] [])) [(.l 22), (.l 23)], some ((.l 21), true)⟩,
      ⟨(.l 25), .pick (.l 21) (.l 24) (.c (.bool false)), none⟩,
      ⟨(.p 4), .mv (.l 25), none⟩])
    (.ret)))
theorem ft21 : FT 21 = some ⟨26, [0, 1, 2, 3, 8], [.var (.p 4)], b21⟩ := by kernel_rfl

def b93_0 : ICode :=
 .seq (.seq (.region [⟨(.l 11), .mv (.p 3), none⟩,
     ⟨(.l 12), .mv (.p 0), none⟩,
     ⟨(.l 13), .len .sl (.l 12), none⟩,
     ⟨(.l 14), .bin .lss (.l 11) (.l 13), none⟩])
   (.cond (.l 14)
    (.skip)
    (.exit 0)))
  (.seq (.block 1
    (.seq (.draw [(⟨(.l 17), .mv (.p 0), none⟩, []),
       (⟨(.l 18), .mv (.p 3), none⟩, [0]),
       (⟨(.l 19), .iaddr none 1 (.l 17) (.l 18), none⟩, []),
       (⟨(.l 20), .load 1 false (.l 19), none⟩, []),
       (⟨(.l 21), .mv (.p 1), none⟩, [0, 1, 2, 3]),
       (⟨(.l 22), .mv (.p 3), none⟩, [0, 1, 2, 3, 4]),
       (⟨(.l 23), .iaddr none 1 (.l 21) (.l 22), none⟩, [0, 1, 2, 3]),
       (⟨(.l 24), .load 1 false (.l 23), none⟩, [0, 1, 2, 3]),
       (⟨(.l 25), .bin .neq (.l 20) (.l 24), none⟩, [])])
     (.cond (.l 25)
      (.seq (.region [⟨(.p 2), .mv (.c (.bool false)), none⟩])
       (.ret))
      (.skip))))
   (.region [⟨(.l 15), .mv (.p 3), none⟩,
     ⟨(.l 16), .bin .add (.l 15) (.c (.int .i64 (1))), none⟩,
     ⟨(.p 3), .mv (.l 16), none⟩]))
/-- stadion/stadionref01.SameInts -/
def b93 : ICode :=
 .seq (.region [⟨(.p 2), .mv (.c (.bool false)), none⟩])
  (.seq (.seq (.region [⟨(.l 6), .mv (.p 0), none⟩,
      ⟨(.l 7), .len .sl (.l 6), none⟩,
      ⟨(.l 8), .mv (.p 1), none⟩,
      ⟨(.l 9), .len .sl (.l 8), none⟩,
      ⟨(.l 10), .bin .neq (.l 7) (.l 9), none⟩])
    (.cond (.l 10)
     (.seq (.region [⟨(.p 2), .mv (.c (.bool false)), none⟩])
      (.ret))
     (.skip)))
   (.seq (.seq (.region [⟨(.p 3), .mv (.c (.int .i64 (0))), none⟩])
     (.block 0
      (.loop b93_0)))
    (.seq (.region [⟨(.p 2), .mv (.c (.bool true)), none⟩])
     (.ret))))
theorem ft93 : FT 93 = some ⟨26, [0, 1, 4, 5], [.var (.p 2)], b93⟩ := by kernel_rfl

end Go.Ab.Ch1


/-
  Own work: plain facts on stable sorting by blocks that are merged in place.
-/
namespace Go.Ab.Sort

/-- By a key, the greater first; equal ones as they are numbered. -/
def Lt (key : Int → Int) (x y : Int) : Prop := key y < key x ∨ key x = key y ∧ x < y

section
variable {key : Int → Int}
def Sd (key : Int → Int) (l : List Int) : Prop := l.Pairwise (Lt key)

theorem Sd.nil : Sd key [] := List.Pairwise.nil
theorem Sd.left {l m : List Int} (h : Sd key (l ++ m)) : Sd key l := (List.pairwise_append.1 h).1
theorem Sd.right {l m : List Int} (h : Sd key (l ++ m)) : Sd key m := (List.pairwise_append.1 h).2.1
end

def sum (l : List Int) : Int := l.foldl (· + ·) 0
/-- The shares: their whole parts, and one more for the first ranks. -/
def base (total : Int) (w : List Int) : List Int := w.map fun x => total * x / sum w
end Go.Ab.Sort


/-
  Own work: slices.SortStableFunc over ints: what it computes, at a comparison that reads nothing of the row.
-/
namespace Go.Ab.Ch1
open Go.Ab.Sort
variable {M : Mach} {h : Heap} {b n : Nat} {cap : Option Nat} {g : AV}

variable {key : Int → Int} {ok : Int → Prop} {cf : Int → Int → Int}

end Go.Ab.Ch1


/-
  Own work: slices.SortStableFunc over ints: the merge in place.
-/
namespace Go.Ab.Ch1
open Go.Ab.Sort
variable {M : Mach} {h : Heap} {b n : Nat} {cap : Option Nat} {g : AV}
variable {key : Int → Int} {ok : Int → Prop} {cf : Int → Int → Int}

end Go.Ab.Ch1


/-
  Own work: slices.SortStableFunc over ints: the merge in place, whole.
-/
namespace Go.Ab.Ch1
open Go.Ab.Sort
variable {M : Mach} {h : Heap} {b n : Nat} {cap : Option Nat} {g : AV}
variable {key : Int → Int} {ok : Int → Prop} {cf : Int → Int → Int}

end Go.Ab.Ch1


/-
  Own work: slices.SortStableFunc over ints: the merge in place, by induction.
-/
namespace Go.Ab.Ch1
open Go.Ab.Sort
variable {M : Mach} {h : Heap} {b n : Nat} {cap : Option Nat} {g : AV}
variable {key : Int → Int} {ok : Int → Prop} {cf : Int → Int → Int}

theorem _root_.Go.Ab.Sort.Sd.split {L : List Int} {i : Nat} (h : Sd key L) : Sd key (L.take i) ∧ Sd key (L.drop i) := by
  have h' : Sd key (L.take i ++ L.drop i) := by rw [List.take_append_drop]; exact h
  exact ⟨h'.left, h'.right⟩

end Go.Ab.Ch1


/-
  Own work: slices.SortStableFunc over ints: blocks and merges, whole.
-/
namespace Go.Ab.Ch1
open Go.Ab.Sort
variable {M : Mach} {h : Heap} {b n : Nat} {cap : Option Nat} {g : AV}
variable {key : Int → Int} {ok : Int → Prop} {cf : Int → Int → Int}

end Go.Ab.Ch1


/-
  Own work: mark.Shares: what it computes.
-/
namespace Go.Ab.Ch1
open Go.Ab.Sort
variable {M : Mach}

theorem take_snoc {w : List Int} {i : Nat} (h : i < w.length) : w.take (i + 1) = w.take i ++ [w[i]!] := by
  rw [List.take_add_one, List.getElem?_eq_getElem h, getElem!_pos w i h]; rfl
end Go.Ab.Ch1


/-
  Own work: the other functions of MarkDraws: what they compute.
-/
namespace Go.Ab.Ch1
open Go.Ab.Sort
variable {M : Mach}

/-! stadionref01.SameInts, stadionlaw01.list. -/
theorem loop93 (l m : List Int) (hlm : l.length = m.length) (hl : l.length < 4611686018427387904) (c1 c2 : Option Nat) {Q : Ex → StW → Prop} (h1 : l = m → ∀ lo wr, Q (.exit 0) ⟨⟨[.vs (ints l) l.length c1, .vs (ints m) m.length c2, .bool false, .int .i64 l.length], lo, [], []⟩, wr⟩)
    (h2 : l ≠ m → ∀ i lo wr, Q .ret ⟨⟨[.vs (ints l) l.length c1, .vs (ints m) m.length c2, .bool false, i], lo, [], []⟩, wr⟩) : ∀ (r i : Nat), i + r = l.length → l.take i = m.take i → ∀ (lo : List (Nat × AV)) (wr : List Nat),
    W M (.loop b93_0) ⟨⟨[.vs (ints l) l.length c1, .vs (ints m) m.length c2, .bool false, .int .i64 i], lo, [], []⟩, wr⟩ Q
  | 0, i, hi, he, lo, wr => by
    obtain rfl : i = l.length := by omega
    rw [List.take_length, hlm, List.take_length] at he
    refine W.loop ?_
    unfold b93_0
    repeat' first | apply W.seq | apply SQn | apply W.region | apply WO.nil | apply W.block | apply W.ret | apply W.exit | apply W.skip | apply SQr | apply SQe | apply BQn | apply BQr | apply BQe | (apply BQo; exact rfl) | apply LQe | apply LQr | (apply W.drawro; exact rfl) | apply W.draw | apply WD.nil | (apply WD.gT; exact rfl) | (apply WD.gF; exact rfl) | (apply WD.sT; exact rfl) | (apply WD.sF; exact rfl) | (apply WD.sU; exact rfl) | (apply WD.pure1; exact rfl) | (apply WD.load1; exact rfl; exact rfl; exact rfl) | (apply W.condT; exact rfl) | (apply W.condF; exact rfl) | (apply W.cond; exact rfl; all_goals intro _) | (apply WO.lss; exact rfl; exact rfl; all_goals first | (intro _; exfalso; omega) | intro _) | (apply WO.neq; exact rfl; exact rfl; all_goals first | (intro _; exfalso; omega) | intro _) | (apply WO.add; exact rfl; exact rfl; omega) | (apply WO.iav; exact rfl; exact rfl; omega) | (apply WO.ias; exact rfl; exact rfl; omega) | (apply WO.lda; exact rfl; exact fun _ => rfl; (first | omega | (simp only [List.length_set]; omega) | (simp; omega)); decide; exact rfl; case ia => infer_instance) | (apply WO.lsa; exact rfl; (first | exact rfl | assumption | exact at_new | (apply at_old; assumption) | (apply at_put; first | assumption | (simp only [put_length]; assumption))); exact fun _ => rfl; (first | omega | (simp only [List.length_set]; omega) | (simp; omega)); decide; exact rfl; case ia => infer_instance) | (apply WO.sneq; exact rfl; exact rfl; all_goals first | (intro h; exact absurd h (by decide)) | (intro h; exact absurd rfl h) | (intro h; contradiction) | intro _) | (apply WO.hlv; exact rfl; exact rfl; exact rfl) | (apply WO.hpv; exact rfl; exact rfl; exact rfl) | (apply WO.hnv; exact rfl; exact rfl; exact rfl) | (apply WO.pl; exact rfl; exact rfl) | (apply WO.pp; exact rfl; exact rfl)
    · exact h1 he _ _
  | r + 1, i, hi, he, lo, wr => by
    have ei : ((i : Int)).toNat = i := by omega
    have b1 : ((i : Int)).toNat < l.length := by omega
    have b2 : ((i : Int)).toNat < m.length := by omega
    refine W.loop ?_
    unfold b93_0
    repeat' first | apply W.seq | apply SQn | apply W.region | apply WO.nil | apply W.block | apply W.ret | apply W.exit | apply W.skip | apply SQr | apply SQe | apply BQn | apply BQr | apply BQe | (apply BQo; exact rfl) | apply LQe | apply LQr | (apply W.drawro; exact rfl) | apply W.draw | apply WD.nil | (apply WD.gT; exact rfl) | (apply WD.gF; exact rfl) | (apply WD.sT; exact rfl) | (apply WD.sF; exact rfl) | (apply WD.sU; exact rfl) | (apply WD.pure1; exact rfl) | (apply WD.load1; exact rfl; exact rfl; exact rfl) | (apply W.condT; exact rfl) | (apply W.condF; exact rfl) | (apply W.cond; exact rfl; all_goals intro _) | (apply WO.lss; exact rfl; exact rfl; all_goals first | (intro _; exfalso; omega) | intro _) | (apply WO.neq; exact rfl; exact rfl; all_goals first | (intro _; exfalso; omega) | intro _) | (apply WO.add; exact rfl; exact rfl; omega) | (apply WO.iav; exact rfl; exact rfl; omega) | (apply WO.ias; exact rfl; exact rfl; omega) | (apply WO.lda; exact rfl; exact fun _ => rfl; (first | omega | (simp only [List.length_set]; omega) | (simp; omega)); decide; exact rfl; case ia => infer_instance) | (apply WO.lsa; exact rfl; (first | exact rfl | assumption | exact at_new | (apply at_old; assumption) | (apply at_put; first | assumption | (simp only [put_length]; assumption))); exact fun _ => rfl; (first | omega | (simp only [List.length_set]; omega) | (simp; omega)); decide; exact rfl; case ia => infer_instance) | (apply WO.sneq; exact rfl; exact rfl; all_goals first | (intro h; exact absurd h (by decide)) | (intro h; exact absurd rfl h) | (intro h; contradiction) | intro _) | (apply WO.hlv; exact rfl; exact rfl; exact rfl) | (apply WO.hpv; exact rfl; exact rfl; exact rfl) | (apply WO.hnv; exact rfl; exact rfl; exact rfl) | (apply WO.pl; exact rfl; exact rfl) | (apply WO.pp; exact rfl; exact rfl)
    · rename_i hne
      exact h2 (fun e => hne (by rw [e])) _ _ _
    · rename_i heq
      refine LQn (loop93 l m hlm hl c1 c2 h1 h2 r (i + 1) (by omega) ?_ _ _)
      rw [take_snoc (by omega), take_snoc (by omega), he]
      rw [ei] at heq
      rw [heq]
theorem w93 (hft : M.FT = FT) (l m : List Int) (c1 c2 : Option Nat) (hl : l.length < 4611686018427387904) : Run M 93 [.vs (ints l) l.length c1, .vs (ints m) m.length c2] [] ⟨.bool (decide (l = m)), [], []⟩ := by
  refine run_of_W (by rw [hft]; exact ft93) (by simp) ?_
  unfold b93
  by_cases hlm : l.length = m.length
  · repeat' first | apply W.seq | apply SQn | apply W.region | apply WO.nil | apply W.block | apply W.ret | apply W.exit | apply W.skip | apply SQr | apply SQe | apply BQn | apply BQr | apply BQe | (apply BQo; exact rfl) | apply LQe | apply LQr | (apply W.condT; exact rfl) | (apply W.condF; exact rfl) | (apply W.cond; exact rfl; all_goals intro _) | (apply WO.neq; exact rfl; exact rfl; all_goals first | (intro _; exfalso; omega) | intro _) | (apply WO.sneq; exact rfl; exact rfl; all_goals first | (intro h; exact absurd h (by decide)) | (intro h; exact absurd rfl h) | (intro h; contradiction) | intro _) | (apply WO.pl; exact rfl; exact rfl) | (apply WO.pp; exact rfl; exact rfl)
    refine loop93 l m hlm hl c1 c2 (fun e lo wr => ?_) (fun e i lo wr => ?_) l.length 0 (by omega) rfl _ _
    · repeat' first | apply W.seq | apply SQn | apply W.region | apply WO.nil | apply W.block | apply W.ret | apply W.exit | apply W.skip | apply SQr | apply SQe | apply BQn | apply BQr | apply BQe | (apply BQo; exact rfl) | apply LQe | apply LQr | (apply W.condT; exact rfl) | (apply W.condF; exact rfl) | (apply W.cond; exact rfl; all_goals intro _) | (apply WO.neq; exact rfl; exact rfl; all_goals first | (intro _; exfalso; omega) | intro _) | (apply WO.sneq; exact rfl; exact rfl; all_goals first | (intro h; exact absurd h (by decide)) | (intro h; exact absurd rfl h) | (intro h; contradiction) | intro _) | (apply WO.pl; exact rfl; exact rfl) | (apply WO.pp; exact rfl; exact rfl)
      exact ⟨.inr rfl, rfl, _, rfl, by rw [decide_eq_true e]; rfl, rfl⟩
    · repeat' first | apply W.seq | apply SQn | apply W.region | apply WO.nil | apply W.block | apply W.ret | apply W.exit | apply W.skip | apply SQr | apply SQe | apply BQn | apply BQr | apply BQe | (apply BQo; exact rfl) | apply LQe | apply LQr | (apply W.condT; exact rfl) | (apply W.condF; exact rfl) | (apply W.cond; exact rfl; all_goals intro _) | (apply WO.neq; exact rfl; exact rfl; all_goals first | (intro _; exfalso; omega) | intro _) | (apply WO.sneq; exact rfl; exact rfl; all_goals first | (intro h; exact absurd h (by decide)) | (intro h; exact absurd rfl h) | (intro h; contradiction) | intro _) | (apply WO.pl; exact rfl; exact rfl) | (apply WO.pp; exact rfl; exact rfl)
      exact ⟨.inr rfl, rfl, _, rfl, by rw [decide_eq_false e]; rfl, rfl⟩
  · repeat' first | apply W.seq | apply SQn | apply W.region | apply WO.nil | apply W.block | apply W.ret | apply W.exit | apply W.skip | apply SQr | apply SQe | apply BQn | apply BQr | apply BQe | (apply BQo; exact rfl) | apply LQe | apply LQr | (apply W.condT; exact rfl) | (apply W.condF; exact rfl) | (apply W.cond; exact rfl; all_goals intro _) | (apply WO.neq; exact rfl; exact rfl; all_goals first | (intro _; exfalso; omega) | intro _) | (apply WO.sneq; exact rfl; exact rfl; all_goals first | (intro h; exact absurd h (by decide)) | (intro h; exact absurd rfl h) | (intro h; contradiction) | intro _) | (apply WO.pl; exact rfl; exact rfl) | (apply WO.pp; exact rfl; exact rfl)
    exact ⟨.inr rfl, rfl, _, rfl, by rw [decide_eq_false (fun e => hlm (by rw [e]))]; rfl, rfl⟩

theorem w21 (hft : M.FT = FT) (l m : List Int) (e bad : Int) (c1 c2 : Option Nat) (h93 : ∀ h, M.ext 93 [.vs (ints l) l.length c1, .vs (ints m) m.length c2] h = some ⟨.bool (decide (l = m)), h, []⟩) :
    Run M 21 [.vs (ints l) l.length c1, .int .i64 e, .int .i64 bad, .vs (ints m) m.length c2] [] ⟨.bool (if bad ≠ 0 then decide (l.length = 0 ∧ e = bad) else decide (e = 0 ∧ l = m)), [], []⟩ := by
  by_cases hb : bad = 0
  · subst hb
    refine run_of_W (by rw [hft]; exact ft21) (by simp) ?_
    unfold b21
    by_cases hlm : l = m
    · rw [decide_eq_true hlm] at h93
      repeat' first | apply W.seq | apply SQn | apply W.region | apply WO.nil | apply W.block | apply W.ret | apply W.exit | apply W.skip | apply SQr | apply SQe | apply BQn | apply BQr | apply BQe | (apply BQo; exact rfl) | apply LQe | apply LQr | (apply W.condT; exact rfl) | (apply W.condF; exact rfl) | (apply W.cond; exact rfl; all_goals intro _) | (apply WO.gT; exact rfl) | (apply WO.gF; exact rfl) | (apply WO.sT; exact rfl) | (apply WO.sF; exact rfl) | (apply WO.sU; exact rfl) | (apply WO.eql; exact rfl; exact rfl; all_goals first | (intro _; exfalso; omega) | intro _) | (apply WO.neq; exact rfl; exact rfl; all_goals first | (intro _; exfalso; omega) | intro _) | (apply WO.pkT; exact rfl; exact rfl) | (apply WO.pkF; exact rfl; exact rfl) | (apply WO.cll; exact rfl; exact rfl; first | exact h93 _) | (apply WO.seql; exact rfl; exact rfl; all_goals first | (intro h; exact absurd h (by decide)) | (intro h; exact absurd rfl h) | (intro h; contradiction) | intro _) | (apply WO.sneq; exact rfl; exact rfl; all_goals first | (intro h; exact absurd h (by decide)) | (intro h; exact absurd rfl h) | (intro h; contradiction) | intro _) | (apply WO.clb; exact rfl; exact rfl; exact rfl; all_goals first | (intro h; exact absurd h (by decide)) | intro _) | (apply WO.cll; exact rfl; exact rfl; exact rfl) | (apply WO.pl; exact rfl; exact rfl) | (apply WO.pp; exact rfl; exact rfl)
      all_goals exact ⟨.inr rfl, rfl, _, rfl, by simp [tupA, *], rfl⟩
    · rw [decide_eq_false hlm] at h93
      repeat' first | apply W.seq | apply SQn | apply W.region | apply WO.nil | apply W.block | apply W.ret | apply W.exit | apply W.skip | apply SQr | apply SQe | apply BQn | apply BQr | apply BQe | (apply BQo; exact rfl) | apply LQe | apply LQr | (apply W.condT; exact rfl) | (apply W.condF; exact rfl) | (apply W.cond; exact rfl; all_goals intro _) | (apply WO.gT; exact rfl) | (apply WO.gF; exact rfl) | (apply WO.sT; exact rfl) | (apply WO.sF; exact rfl) | (apply WO.sU; exact rfl) | (apply WO.eql; exact rfl; exact rfl; all_goals first | (intro _; exfalso; omega) | intro _) | (apply WO.neq; exact rfl; exact rfl; all_goals first | (intro _; exfalso; omega) | intro _) | (apply WO.pkT; exact rfl; exact rfl) | (apply WO.pkF; exact rfl; exact rfl) | (apply WO.cll; exact rfl; exact rfl; first | exact h93 _) | (apply WO.seql; exact rfl; exact rfl; all_goals first | (intro h; exact absurd h (by decide)) | (intro h; exact absurd rfl h) | (intro h; contradiction) | intro _) | (apply WO.sneq; exact rfl; exact rfl; all_goals first | (intro h; exact absurd h (by decide)) | (intro h; exact absurd rfl h) | (intro h; contradiction) | intro _) | (apply WO.clb; exact rfl; exact rfl; exact rfl; all_goals first | (intro h; exact absurd h (by decide)) | intro _) | (apply WO.cll; exact rfl; exact rfl; exact rfl) | (apply WO.pl; exact rfl; exact rfl) | (apply WO.pp; exact rfl; exact rfl)
      all_goals exact ⟨.inr rfl, rfl, _, rfl, by simp [tupA, *], rfl⟩
  · have hl0 : ((l.length : Int) = 0) = (l.length = 0) := by apply propext; omega
    rw [if_pos hb]
    refine run_of_W (by rw [hft]; exact ft21) (by simp) ?_
    unfold b21
    repeat' first | apply W.seq | apply SQn | apply W.region | apply WO.nil | apply W.block | apply W.ret | apply W.exit | apply W.skip | apply SQr | apply SQe | apply BQn | apply BQr | apply BQe | (apply BQo; exact rfl) | apply LQe | apply LQr | (apply W.condT; exact rfl) | (apply W.condF; exact rfl) | (apply W.cond; exact rfl; all_goals intro _) | (apply WO.gT; exact rfl) | (apply WO.gF; exact rfl) | (apply WO.sT; exact rfl) | (apply WO.sF; exact rfl) | (apply WO.sU; exact rfl) | (apply WO.eql; exact rfl; exact rfl; all_goals first | (intro _; exfalso; omega) | intro _) | (apply WO.neq; exact rfl; exact rfl; all_goals first | (intro _; exfalso; omega) | intro _) | (apply WO.pkT; exact rfl; exact rfl) | (apply WO.pkF; exact rfl; exact rfl) | (apply WO.seql; exact rfl; exact rfl; all_goals first | (intro h; exact absurd h (by decide)) | (intro h; exact absurd rfl h) | (intro h; contradiction) | intro _) | (apply WO.sneq; exact rfl; exact rfl; all_goals first | (intro h; exact absurd h (by decide)) | (intro h; exact absurd rfl h) | (intro h; contradiction) | intro _) | (apply WO.clb; exact rfl; exact rfl; exact rfl; all_goals first | (intro h; exact absurd h (by decide)) | intro _) | (apply WO.cll; exact rfl; exact rfl; exact rfl) | (apply WO.pl; exact rfl; exact rfl) | (apply WO.pp; exact rfl; exact rfl)
    all_goals refine ⟨.inr rfl, rfl, _, rfl, ?_, rfl⟩
    all_goals simp only [tupA]; congr 1; symm
    all_goals first | (rw [decide_eq_true_eq]; omega) | (rw [decide_eq_false_iff_not]; omega)

end Go.Ab.Ch1


/-
  Own work: the reference's weights and shares: what they compute.
-/
namespace Go.Ab.Ch1
open Go.Ab.Sort
variable {M : Mach}

end Go.Ab.Ch1


/-
  Own work: stadionlaw01.MarkDraws answers true.
-/
namespace Go.Ab.Ch1
open Go.Ab.Sort
variable {M : Mach}

end Go.Ab.Ch1


/-
  Own work: the contracts of MarkDraws as a table.
-/
namespace Go.Ab.Ch1
open Go.Proofs Go.Ab.Sort

/-- Two lists of integers, as their contents. -/
theorem two_fr {h : Heap} {x y : AV} {l m : List Int} (hx : intsAt h x = some l) (hy : intsAt h y = some m) : ∃ S c1 c2, Fr h S x (.vs (ints l) l.length c1) ∧ Fr h S y (.vs (ints m) m.length c2) := by
  obtain ⟨S1, c1, h1⟩ := (intsAt_sl hx).fr (fun _ => rfl)
  obtain ⟨S2, c2, h2⟩ := (intsAt_sl hy).fr (fun _ => rfl)
  exact ⟨S1 ++ S2, c1, c2, h1.mono (fun b hb => List.mem_append_left _ hb), h2.mono (fun b hb => List.mem_append_right _ hb)⟩

def spec93 : Spec := fun
  | [x, y], h => match intsAt h x, intsAt h y with
    | some l, some m => if l.length < 4611686018427387904 then some ⟨.bool (decide (l = m)), h, []⟩ else none
    | _, _ => none
  | _, _ => none
theorem same93 : SpecOK Tryz.prog gl 93 spec93 := by
  intro xs h r hq
  unfold spec93 at hq
  split at hq
  · split at hq
    · rename_i l m hl hm
      split at hq
      · rename_i hlen
        cases hq
        obtain ⟨S, c1, c2, f1, f2⟩ := two_fr hl hm
        exact ent_run0 seat tab_nil (w93 mach_ft l m c1 c2 hlen) (.cons f1 (.cons f2 .nil)) rfl (.inr rfl)
      · cases hq
    · cases hq
  · cases hq

def spec21 : Spec := fun
  | [x, .int .i64 e, .int .i64 bad, y], h => match intsAt h x, intsAt h y with
    | some l, some m => if l.length < 4611686018427387904 then some ⟨.bool (if bad ≠ 0 then decide (l.length = 0 ∧ e = bad) else decide (e = 0 ∧ l = m)), h, []⟩ else none
    | _, _ => none
  | _, _ => none
def T93 : List (Nat × Spec) := [(93, spec93)]
theorem list21 : SpecOK Tryz.prog gl 21 spec21 := by
  intro xs h r hq
  unfold spec21 at hq
  split at hq
  · split at hq
    · rename_i l m hl hm
      split at hq
      · rename_i hlen
        cases hq
        obtain ⟨S, c1, c2, f1, f2⟩ := two_fr hl hm
        refine ent_run0 seat (T := T93) (tab_cons same93 tab_nil) (w21 mach_ft l m _ _ c1 c2 fun hp => ?_) (.cons f1 (.cons (.same rfl) (.cons (.same rfl) (.cons f2 .nil)))) rfl (.inr rfl)
        rw [mach_ext]
        show spec93 [.vs (ints l) l.length c1, .vs (ints m) m.length c2] hp = _
        simp only [spec93, intsAt_vs, if_pos hlen]
      · cases hq
    · cases hq
  · cases hq

theorem novL_ints (l : List Int) : novL (ints l) = true := novL_arr (fun _ => rfl) l
end Go.Ab.Ch1


/-
  Own work: the resolved code of some functions of chapter 1: ranks, the sort of a few marks.
-/
namespace Go.Ab.Ch1

def b49_0 : ICode :=
 .seq (.region [⟨(.l 21), .bin .lss (.p 13) (.p 12), none⟩])
  (.seq (.cond (.l 21)
    (.skip)
    (.exit 0))
   (.seq (.block 1
     (.seq (.region [⟨(.l 22), .iaddr none 3 (.p 11) (.p 13), none⟩,
        ⟨(.l 23), .load 3 true (.l 22), none⟩,
        ⟨(.p 4), .alloc 49 [.str [], .int .i64 (0), .str []], none⟩,
        ⟨.no, .store 3 (.p 4) (.l 23), none⟩])
      (.seq (.seq (.draw [(⟨(.l 24), .load 3 true (.p 4), none⟩, []),
          (⟨(.l 25), .call (.c (.fn (.func 36) [] [])) [(.l 24)], none⟩, []),
          (⟨(.l 26), .load 3 true (.p 3), none⟩, [0, 1]),
          (⟨(.l 27), .load 3 true (.p 4), none⟩, [0, 1, 2]),
          (⟨(.l 28), .call (.c (.fn (.func 114) [] [])) [(.l 26), (.l 27)], none⟩, []),
          (⟨(.l 29), .call (.c (.fn (.func 97) [] [])) [(.l 28), (.c (.int .i64 (13)))], none⟩, []),
          (⟨(.l 30), .bslice 25 2 1 [.int .i64 (0)] [(0, 1, (.l 25)), (1, 1, (.l 29))], none⟩, []),
          (⟨(.l 31), .call (.c (.fn (.func 96) [] [])) [(.l 30)], none⟩, []),
          (⟨(.p 5), .mv (.l 31), none⟩, [])])
        (.seq (.region [⟨(.l 32), .mv (.p 5), none⟩,
           ⟨(.l 33), .bin .neq (.l 32) (.c (.int .i64 (0))), none⟩])
         (.cond (.l 33)
          (.seq (.region [⟨(.l 34), .mv (.p 5), none⟩,
             ⟨(.p 1), .mv (.c (.nilsl)), none⟩,
             ⟨(.p 2), .mv (.l 34), none⟩])
           (.ret))
          (.skip))))
       (.seq (.region [⟨(.l 35), .faddr 0 (.p 4), none⟩,
          ⟨(.l 36), .load 1 false (.l 35), none⟩,
          ⟨(.l 37), .bin .neq (.l 36) (.c (.str [110, 111, 110, 101])), none⟩])
        (.cond (.l 37)
         (.region [⟨(.l 38), .load 3 true (.p 4), none⟩,
           ⟨.no, .store 3 (.p 3) (.l 38), none⟩])
         (.skip))))))
    (.region [⟨(.l 39), .bin .add (.p 13) (.c (.int .i64 (1))), none⟩,
      ⟨(.p 13), .mv (.l 39), none⟩])))
def b49_1 : ICode :=
 .seq (.region [⟨(.l 50), .bin .lss (.p 16) (.p 15), none⟩])
  (.seq (.cond (.l 50)
    (.skip)
    (.exit 2))
   (.seq (.block 3
     (.seq (.region [⟨(.l 51), .mv (.p 16), none⟩,
        ⟨(.l 52), .iaddr none 3 (.p 14) (.p 16), none⟩,
        ⟨(.l 53), .load 3 true (.l 52), none⟩,
        ⟨(.p 9), .alloc 49 [.str [], .int .i64 (0), .str []], none⟩,
        ⟨(.p 8), .mv (.l 51), none⟩,
        ⟨.no, .store 3 (.p 9) (.l 53), none⟩])
      (.seq (.region [⟨(.l 54), .faddr 0 (.p 9), none⟩,
         ⟨(.l 55), .load 1 false (.l 54), none⟩,
         ⟨(.l 56), .bin .neq (.l 55) (.c (.str [110, 111, 110, 101])), none⟩])
       (.cond (.l 56)
        (.seq (.region [⟨(.l 58), .mv (.p 7), none⟩,
           ⟨(.l 59), .load 3 true (.p 9), none⟩,
           ⟨(.l 60), .call (.c (.fn (.func 132) [] [])) [(.l 58), (.l 59), (.c (.fn (.func 115) [] []))], none⟩,
           ⟨(.l 57), .mv (.l 60), none⟩,
           ⟨(.l 61), .extract 0 (.l 57), none⟩,
           ⟨(.l 62), .extract 1 (.l 57), none⟩,
           ⟨(.p 10), .mv (.l 61), none⟩,
           ⟨(.l 13), .mv (.l 62), none⟩])
         (.region [⟨(.l 63), .mv (.p 6), none⟩,
           ⟨(.l 64), .mv (.p 8), none⟩,
           ⟨(.l 65), .mv (.p 10), none⟩,
           ⟨(.l 66), .bin .add (.l 65) (.c (.int .i64 (1))), none⟩,
           ⟨(.l 67), .iaddr none 1 (.l 63) (.l 64), none⟩,
           ⟨.no, .store 1 (.l 67) (.l 66), none⟩]))
        (.skip)))))
    (.region [⟨(.l 68), .bin .add (.p 16) (.c (.int .i64 (1))), none⟩,
      ⟨(.p 16), .mv (.l 68), none⟩])))
/-- stadion/mark.Ranks -/
def b49 : ICode :=
 .seq (.region [⟨(.p 1), .mv (.c (.nilsl)), none⟩,
    ⟨(.p 2), .mv (.c (.int .i64 (0))), none⟩])
  (.seq (.seq (.region [⟨(.l 14), .mv (.p 0), none⟩,
      ⟨(.l 15), .len .sl (.l 14), none⟩,
      ⟨(.l 16), .bin .gtr (.l 15) (.c (.int .i64 (256))), none⟩])
    (.cond (.l 16)
     (.seq (.region [⟨(.p 1), .mv (.c (.nilsl)), none⟩,
        ⟨(.p 2), .mv (.c (.int .i64 (5))), none⟩])
      (.ret))
     (.skip)))
   (.seq (.region [⟨(.l 17), .build [.str [], .int .i64 (0), .str []] [(0, 1, (.c (.str [110, 111, 110, 101])))], none⟩,
      ⟨(.p 3), .alloc 49 [.str [], .int .i64 (0), .str []], none⟩,
      ⟨.no, .store 3 (.p 3) (.l 17), none⟩])
    (.seq (.seq (.region [⟨(.p 11), .mv (.p 0), none⟩,
        ⟨(.p 12), .len .sl (.p 11), none⟩,
        ⟨(.p 13), .mv (.c (.int .i64 (0))), none⟩])
      (.block 0
       (.loop b49_0)))
     (.seq (.region [⟨(.l 40), .mv (.p 0), none⟩,
        ⟨(.l 41), .len .sl (.l 40), none⟩,
        ⟨(.l 42), .mkslice 3 1 8 [.int .i64 (0)] (.l 41) (.l 41), none⟩,
        ⟨(.p 6), .mv (.l 42), none⟩])
      (.seq (.region [⟨(.l 43), .mv (.p 0), none⟩,
         ⟨(.l 44), .call (.c (.fn (.func 130) [] [])) [(.l 43)], none⟩,
         ⟨(.p 7), .mv (.l 44), none⟩])
       (.seq (.region [⟨(.l 45), .mv (.p 7), none⟩,
          ⟨(.l 46), .call (.c (.fn (.func 131) [] [])) [(.l 45), (.c (.fn (.func 115) [] []))], none⟩])
        (.seq (.seq (.region [⟨(.p 14), .mv (.p 0), none⟩,
            ⟨(.p 15), .len .sl (.p 14), none⟩,
            ⟨(.p 16), .mv (.c (.int .i64 (0))), none⟩])
          (.block 2
           (.loop b49_1)))
         (.seq (.region [⟨(.l 69), .mv (.p 6), none⟩,
            ⟨(.p 1), .mv (.l 69), none⟩,
            ⟨(.p 2), .mv (.c (.int .i64 (0))), none⟩])
          (.ret)))))))))
theorem ft49 : FT 49 = some ⟨70, [0, 2, 3, 4, 6, 7, 8, 9, 10, 11, 12, 18, 19, 20, 47, 48, 49], [.var (.p 1), .var (.p 2)], b49⟩ := by kernel_rfl

def b50_0 : ICode :=
 .seq (.seq (.region [⟨(.l 19), .mv (.p 5), none⟩,
     ⟨(.l 20), .mv (.p 0), none⟩,
     ⟨(.l 21), .len .sl (.l 20), none⟩,
     ⟨(.l 22), .bin .lss (.l 19) (.l 21), none⟩])
   (.cond (.l 22)
    (.skip)
    (.exit 2)))
  (.seq (.block 3
    (.seq (.draw [(⟨(.l 25), .mv (.p 0), none⟩, []),
       (⟨(.l 26), .mv (.p 5), none⟩, [0]),
       (⟨(.l 27), .iaddr none 3 (.l 25) (.l 26), none⟩, []),
       (⟨(.l 28), .load 3 true (.l 27), none⟩, []),
       (⟨(.l 29), .mv (.p 0), none⟩, [0, 1, 2, 3]),
       (⟨(.l 30), .mv (.p 3), none⟩, [0, 1, 2, 3, 4]),
       (⟨(.l 31), .iaddr none 3 (.l 29) (.l 30), none⟩, [0, 1, 2, 3]),
       (⟨(.l 32), .load 3 true (.l 31), none⟩, [0, 1, 2, 3]),
       (⟨(.l 33), .call (.c (.fn (.func 39) [] [])) [(.l 28), (.l 32)], none⟩, []),
       (⟨(.l 34), .bin .lss (.l 33) (.c (.int .i64 (0))), none⟩, [])])
     (.cond (.l 34)
      (.region [⟨(.l 35), .mv (.p 4), none⟩,
        ⟨(.l 36), .bin .add (.l 35) (.c (.int .i64 (1))), none⟩,
        ⟨(.p 4), .mv (.l 36), none⟩])
      (.skip))))
   (.region [⟨(.l 23), .mv (.p 5), none⟩,
     ⟨(.l 24), .bin .add (.l 23) (.c (.int .i64 (1))), none⟩,
     ⟨(.p 5), .mv (.l 24), none⟩]))
def b50_1 : ICode :=
 .seq (.seq (.region [⟨(.l 7), .mv (.p 3), none⟩,
     ⟨(.l 8), .mv (.p 0), none⟩,
     ⟨(.l 9), .len .sl (.l 8), none⟩,
     ⟨(.l 10), .bin .lss (.l 7) (.l 9), none⟩])
   (.cond (.l 10)
    (.skip)
    (.exit 0)))
  (.seq (.block 1
    (.seq (.region [⟨(.p 4), .mv (.c (.int .i64 (0))), none⟩])
     (.seq (.seq (.region [⟨(.l 13), .mv (.p 0), none⟩,
         ⟨(.l 14), .mv (.p 3), none⟩,
         ⟨(.l 15), .iaddr none 3 (.l 13) (.l 14), none⟩,
         ⟨(.l 16), .faddr 0 (.l 15), none⟩,
         ⟨(.l 17), .load 1 false (.l 16), none⟩,
         ⟨(.l 18), .bin .neq (.l 17) (.c (.str [110, 111, 110, 101])), none⟩])
       (.cond (.l 18)
        (.seq (.region [⟨(.p 4), .mv (.c (.int .i64 (1))), none⟩])
         (.seq (.region [⟨(.p 5), .mv (.c (.int .i64 (0))), none⟩])
          (.block 2
           (.loop b50_0))))
        (.skip)))
      (.region [⟨(.l 37), .mv (.p 2), none⟩,
        ⟨(.l 38), .mv (.p 4), none⟩,
        ⟨(.l 39), .bslice 3 1 1 [.int .i64 (0)] [(0, 1, (.l 38))], none⟩,
        ⟨(.l 40), .append 3 1 8 (.l 37) (.l 39), none⟩,
        ⟨(.p 2), .mv (.l 40), none⟩]))))
   (.region [⟨(.l 11), .mv (.p 3), none⟩,
     ⟨(.l 12), .bin .add (.l 11) (.c (.int .i64 (1))), none⟩,
     ⟨(.p 3), .mv (.l 12), none⟩]))
/-- stadion/stadionref01.Ranks -/
def b50 : ICode :=
 .seq (.region [⟨(.p 1), .mv (.c (.nilsl)), none⟩])
  (.seq (.region [⟨(.p 2), .mv (.c (.nilsl)), none⟩])
   (.seq (.seq (.region [⟨(.p 3), .mv (.c (.int .i64 (0))), none⟩])
     (.block 0
      (.loop b50_1)))
    (.seq (.region [⟨(.l 41), .mv (.p 2), none⟩,
       ⟨(.p 1), .mv (.l 41), none⟩])
     (.ret))))
theorem ft50 : FT 50 = some ⟨42, [0, 2, 3, 4, 5, 6], [.var (.p 1)], b50⟩ := by kernel_rfl

def b48_0 : ICode :=
 .seq (.seq (.region [⟨(.l 9), .mv (.p 3), none⟩,
     ⟨(.l 10), .mv (.p 0), none⟩,
     ⟨(.l 11), .len .sl (.l 10), none⟩,
     ⟨(.l 12), .bin .lss (.l 9) (.l 11), none⟩])
   (.cond (.l 12)
    (.skip)
    (.exit 0)))
  (.seq (.block 1
    (.seq (.seq (.region [⟨(.l 15), .mv (.p 0), none⟩,
        ⟨(.l 16), .mv (.p 3), none⟩,
        ⟨(.l 17), .iaddr none 3 (.l 15) (.l 16), none⟩,
        ⟨(.l 18), .load 3 true (.l 17), none⟩,
        ⟨(.l 19), .call (.c (.fn (.func 35) [] [])) [(.l 18)], none⟩,
        ⟨(.p 4), .mv (.l 19), none⟩])
      (.seq (.region [⟨(.l 20), .mv (.p 4), none⟩,
         ⟨(.l 21), .bin .neq (.l 20) (.c (.int .i64 (0))), none⟩])
       (.cond (.l 21)
        (.seq (.region [⟨(.l 22), .mv (.p 4), none⟩,
           ⟨(.p 1), .mv (.l 22), none⟩])
         (.ret))
        (.skip))))
     (.seq (.seq (.region [⟨(.l 23), .mv (.p 0), none⟩,
         ⟨(.l 24), .mv (.p 3), none⟩,
         ⟨(.l 25), .iaddr none 3 (.l 23) (.l 24), none⟩,
         ⟨(.l 26), .faddr 0 (.l 25), none⟩,
         ⟨(.l 27), .load 1 false (.l 26), none⟩,
         ⟨(.l 28), .bin .eql (.l 27) (.c (.str [110, 111, 110, 101])), none⟩])
       (.cond (.l 28)
        (.exit 1)
        (.skip)))
      (.seq (.seq (.region [⟨(.l 29), .mv (.p 2), none⟩,
          ⟨(.l 30), .bin .neq (.l 29) (.c (.str [])), none⟩,
          ⟨(.l 31), .mv (.l 30), none⟩,
          ⟨(.l 32), .mv (.p 2), some ((.l 31), true)⟩,
          ⟨(.l 33), .mv (.p 0), some ((.l 31), true)⟩,
          ⟨(.l 34), .mv (.p 3), some ((.l 31), true)⟩,
          ⟨(.l 35), .iaddr none 3 (.l 33) (.l 34), some ((.l 31), true)⟩,
          ⟨(.l 36), .faddr 0 (.l 35), some ((.l 31), true)⟩,
          ⟨(.l 37), .load 1 false (.l 36), some ((.l 31), true)⟩,
          ⟨(.l 38), .bin .neq (.l 32) (.l 37), some ((.l 31), true)⟩,
          ⟨(.l 39), .pick (.l 31) (.l 38) (.c (.bool false)), none⟩])
        (.cond (.l 39)
         (.seq (.region [⟨(.p 1), .mv (.c (.int .i64 (13))), none⟩])
          (.ret))
         (.skip)))
       (.region [⟨(.l 40), .mv (.p 0), none⟩,
         ⟨(.l 41), .mv (.p 3), none⟩,
         ⟨(.l 42), .iaddr none 3 (.l 40) (.l 41), none⟩,
         ⟨(.l 43), .faddr 0 (.l 42), none⟩,
         ⟨(.l 44), .load 1 false (.l 43), none⟩,
         ⟨(.p 2), .mv (.l 44), none⟩])))))
   (.region [⟨(.l 13), .mv (.p 3), none⟩,
     ⟨(.l 14), .bin .add (.l 13) (.c (.int .i64 (1))), none⟩,
     ⟨(.p 3), .mv (.l 14), none⟩]))
/-- stadion/stadionref01.CheckMarks -/
def b48 : ICode :=
 .seq (.region [⟨(.p 1), .mv (.c (.int .i64 (0))), none⟩])
  (.seq (.seq (.region [⟨(.l 6), .mv (.p 0), none⟩,
      ⟨(.l 7), .len .sl (.l 6), none⟩,
      ⟨(.l 8), .bin .gtr (.l 7) (.c (.int .i64 (256))), none⟩])
    (.cond (.l 8)
     (.seq (.region [⟨(.p 1), .mv (.c (.int .i64 (5))), none⟩])
      (.ret))
     (.skip)))
   (.seq (.region [⟨(.p 2), .mv (.c (.str [])), none⟩])
    (.seq (.seq (.region [⟨(.p 3), .mv (.c (.int .i64 (0))), none⟩])
      (.block 0
       (.loop b48_0)))
     (.seq (.region [⟨(.p 1), .mv (.c (.int .i64 (0))), none⟩])
      (.ret)))))
theorem ft48 : FT 48 = some ⟨45, [0, 2, 3, 4, 5], [.var (.p 1)], b48⟩ := by kernel_rfl

/-- slices.Clone[[]stadion/api.Mark,stadion/api.Mark] -/
def b130 : ICode :=
 .seq (.region [⟨(.p 1), .mv (.c (.nilsl)), none⟩])
  (.seq (.seq (.region [⟨(.l 3), .mv (.p 0), none⟩,
      ⟨(.l 4), .eq false (.ref .slice) (.l 3) (.c (.nilsl)), none⟩])
    (.cond (.l 4)
     (.seq (.region [⟨(.p 1), .mv (.c (.nilsl)), none⟩])
      (.ret))
     (.skip)))
   (.seq (.region [⟨(.l 5), .bslice 49 0 3 [.str [], .int .i64 (0), .str []] [], none⟩,
      ⟨(.l 6), .mv (.p 0), none⟩,
      ⟨(.l 7), .append 49 3 40 (.l 5) (.l 6), none⟩,
      ⟨(.p 1), .mv (.l 7), none⟩])
    (.ret)))
theorem ft130 : FT 130 = some ⟨8, [0, 2], [.var (.p 1)], b130⟩ := by kernel_rfl

def b132_0 : ICode :=
 .seq (.seq (.region [⟨(.l 15), .mv (.p 7), none⟩,
     ⟨(.l 16), .mv (.p 8), none⟩,
     ⟨(.l 17), .bin .lss (.l 15) (.l 16), none⟩])
   (.cond (.l 17)
    (.skip)
    (.exit 0)))
  (.block 1
   (.seq (.region [⟨(.l 18), .mv (.p 7), none⟩,
      ⟨(.l 19), .mv (.p 8), none⟩,
      ⟨(.l 20), .bin .add (.l 18) (.l 19), none⟩,
      ⟨(.l 21), .convInt .u64 (.l 20), none⟩,
      ⟨(.l 22), .bin .shr (.l 21) (.c (.int .u64 (1))), none⟩,
      ⟨(.l 23), .convInt .i64 (.l 22), none⟩,
      ⟨(.p 9), .mv (.l 23), none⟩])
    (.seq (.draw [(⟨(.l 24), .mv (.p 2), none⟩, []),
       (⟨(.l 25), .mv (.p 0), none⟩, [0]),
       (⟨(.l 26), .mv (.p 9), none⟩, [0, 1]),
       (⟨(.l 27), .iaddr none 3 (.l 25) (.l 26), none⟩, [0]),
       (⟨(.l 28), .load 3 true (.l 27), none⟩, [0]),
       (⟨(.l 29), .load 3 true (.p 3), none⟩, [0, 1, 2, 3, 4]),
       (⟨(.l 30), .call (.l 24) [(.l 28), (.l 29)], none⟩, []),
       (⟨(.l 31), .bin .lss (.l 30) (.c (.int .i64 (0))), none⟩, [])])
     (.cond (.l 31)
      (.region [⟨(.l 32), .mv (.p 9), none⟩,
        ⟨(.l 33), .bin .add (.l 32) (.c (.int .i64 (1))), none⟩,
        ⟨(.p 7), .mv (.l 33), none⟩])
      (.region [⟨(.l 34), .mv (.p 9), none⟩,
        ⟨(.p 8), .mv (.l 34), none⟩])))))
/-- slices.BinarySearchFunc[[]stadion/api.Mark,stadion/api.Mark,stadion/api.Mark] -/
def b132 : ICode :=
 .seq (.region [⟨(.p 3), .box 49 3 (.p 1), none⟩,
    ⟨(.p 4), .mv (.c (.int .i64 (0))), none⟩,
    ⟨(.p 5), .mv (.c (.bool false)), none⟩])
  (.seq (.region [⟨(.l 12), .mv (.p 0), none⟩,
     ⟨(.l 13), .len .sl (.l 12), none⟩,
     ⟨(.p 6), .mv (.l 13), none⟩])
   (.seq (.region [⟨(.l 14), .mv (.p 6), none⟩,
      ⟨(.p 7), .mv (.c (.int .i64 (0))), none⟩,
      ⟨(.p 8), .mv (.l 14), none⟩])
    (.seq (.block 0
      (.loop b132_0))
     (.seq (.draw [(⟨(.l 35), .mv (.p 7), none⟩, []),
        (⟨(.l 36), .mv (.p 7), none⟩, [0]),
        (⟨(.l 37), .mv (.p 6), none⟩, [0, 1]),
        (⟨(.l 38), .bin .lss (.l 36) (.l 37), none⟩, [0]),
        (⟨(.l 39), .mv (.l 38), none⟩, [0]),
        (⟨(.l 40), .mv (.p 2), some ((.l 39), true)⟩, [0]),
        (⟨(.l 41), .mv (.p 0), some ((.l 39), true)⟩, [0, 5]),
        (⟨(.l 42), .mv (.p 7), some ((.l 39), true)⟩, [0, 5, 6]),
        (⟨(.l 43), .iaddr none 3 (.l 41) (.l 42), some ((.l 39), true)⟩, [0, 5]),
        (⟨(.l 44), .load 3 true (.l 43), some ((.l 39), true)⟩, [0, 5]),
        (⟨(.l 45), .load 3 true (.p 3), some ((.l 39), true)⟩, [0, 5, 6, 7, 8, 9]),
        (⟨(.l 46), .call (.l 40) [(.l 44), (.l 45)], some ((.l 39), true)⟩, [0]),
        (⟨(.l 47), .bin .eql (.l 46) (.c (.int .i64 (0))), some ((.l 39), true)⟩, [0]),
        (⟨(.l 48), .pick (.l 39) (.l 47) (.c (.bool false)), none⟩, [0]),
        (⟨(.p 4), .mv (.l 35), none⟩, [12, 13]),
        (⟨(.p 5), .mv (.l 48), none⟩, [])])
      (.ret)))))
theorem ft132 : FT 132 = some ⟨49, [0, 1, 2, 4, 6, 7, 8, 9, 10, 11], [.var (.p 4), .var (.p 5)], b132⟩ := by kernel_rfl

/-- slices.SortFunc[[]stadion/api.Mark,stadion/api.Mark] -/
def b131 : ICode :=
 .seq (.region [⟨(.l 5), .mv (.p 0), none⟩,
    ⟨(.l 6), .len .sl (.l 5), none⟩,
    ⟨(.p 2), .mv (.l 6), none⟩])
  (.region [⟨(.l 7), .mv (.p 0), none⟩,
    ⟨(.l 8), .mv (.p 2), none⟩,
    ⟨(.l 9), .mv (.p 2), none⟩,
    ⟨(.l 10), .convInt .u64 (.l 9), none⟩,
    ⟨(.l 11), .call (.c (.fn (.func 191) [] [])) [(.l 10)], none⟩,
    ⟨(.l 12), .mv (.p 1), none⟩,
    ⟨(.l 13), .call (.c (.fn (.func 190) [] [])) [(.l 7), (.c (.int .i64 (0))), (.l 8), (.l 11), (.l 12)], none⟩])
theorem ft131 : FT 131 = some ⟨14, [0, 1, 4], [], b131⟩ := by kernel_rfl

def b190_0 : ICode :=
 .block 1
  (.seq (.region [⟨(.l 21), .mv (.p 2), none⟩,
     ⟨(.l 22), .mv (.p 1), none⟩,
     ⟨(.l 23), .bin .sub (.l 21) (.l 22), none⟩,
     ⟨(.p 7), .mv (.l 23), none⟩])
   (.seq (.seq (.region [⟨(.l 24), .mv (.p 7), none⟩,
       ⟨(.l 25), .bin .leq (.l 24) (.c (.int .i64 (12))), none⟩])
     (.cond (.l 25)
      (.seq (.region [⟨(.l 26), .mv (.p 0), none⟩,
         ⟨(.l 27), .mv (.p 1), none⟩,
         ⟨(.l 28), .mv (.p 2), none⟩,
         ⟨(.l 29), .mv (.p 4), none⟩,
         ⟨(.l 30), .call (.c (.fn (.func 231) [] [])) [(.l 26), (.l 27), (.l 28), (.l 29)], none⟩])
       (.ret))
      (.skip)))
    (.seq (.seq (.region [⟨(.l 31), .mv (.p 3), none⟩,
        ⟨(.l 32), .bin .eql (.l 31) (.c (.int .i64 (0))), none⟩])
      (.cond (.l 32)
       (.seq (.region [⟨(.l 33), .mv (.p 0), none⟩,
          ⟨(.l 34), .mv (.p 1), none⟩,
          ⟨(.l 35), .mv (.p 2), none⟩,
          ⟨(.l 36), .mv (.p 4), none⟩,
          ⟨(.l 37), .call (.c (.fn (.func 232) [] [])) [(.l 33), (.l 34), (.l 35), (.l 36)], none⟩])
        (.ret))
       (.skip)))
     (.seq (.seq (.region [⟨(.l 38), .mv (.p 5), none⟩,
         ⟨(.l 39), .un .not (.l 38), none⟩])
       (.cond (.l 39)
        (.seq (.region [⟨(.l 40), .mv (.p 0), none⟩,
           ⟨(.l 41), .mv (.p 1), none⟩,
           ⟨(.l 42), .mv (.p 2), none⟩,
           ⟨(.l 43), .mv (.p 4), none⟩,
           ⟨(.l 44), .call (.c (.fn (.func 233) [] [])) [(.l 40), (.l 41), (.l 42), (.l 43)], none⟩])
         (.region [⟨(.l 45), .mv (.p 3), none⟩,
           ⟨(.l 46), .bin .sub (.l 45) (.c (.int .i64 (1))), none⟩,
           ⟨(.p 3), .mv (.l 46), none⟩]))
        (.skip)))
      (.seq (.region [⟨(.l 48), .mv (.p 0), none⟩,
         ⟨(.l 49), .mv (.p 1), none⟩,
         ⟨(.l 50), .mv (.p 2), none⟩,
         ⟨(.l 51), .mv (.p 4), none⟩,
         ⟨(.l 52), .call (.c (.fn (.func 234) [] [])) [(.l 48), (.l 49), (.l 50), (.l 51)], none⟩,
         ⟨(.l 47), .mv (.l 52), none⟩,
         ⟨(.l 53), .extract 0 (.l 47), none⟩,
         ⟨(.l 54), .extract 1 (.l 47), none⟩,
         ⟨(.p 8), .mv (.l 53), none⟩,
         ⟨(.p 9), .mv (.l 54), none⟩])
       (.seq (.seq (.region [⟨(.l 55), .mv (.p 9), none⟩,
           ⟨(.l 56), .bin .eql (.l 55) (.c (.int .i64 (2))), none⟩])
         (.cond (.l 56)
          (.seq (.region [⟨(.l 57), .mv (.p 0), none⟩,
             ⟨(.l 58), .mv (.p 1), none⟩,
             ⟨(.l 59), .mv (.p 2), none⟩,
             ⟨(.l 60), .mv (.p 4), none⟩,
             ⟨(.l 61), .call (.c (.fn (.func 235) [] [])) [(.l 57), (.l 58), (.l 59), (.l 60)], none⟩])
           (.seq (.region [⟨(.l 62), .mv (.p 2), none⟩,
              ⟨(.l 63), .bin .sub (.l 62) (.c (.int .i64 (1))), none⟩,
              ⟨(.l 64), .mv (.p 8), none⟩,
              ⟨(.l 65), .mv (.p 1), none⟩,
              ⟨(.l 66), .bin .sub (.l 64) (.l 65), none⟩,
              ⟨(.l 67), .bin .sub (.l 63) (.l 66), none⟩,
              ⟨(.p 8), .mv (.l 67), none⟩])
            (.region [⟨(.p 9), .mv (.c (.int .i64 (1))), none⟩])))
          (.skip)))
        (.seq (.seq (.region [⟨(.l 68), .mv (.p 5), none⟩,
            ⟨(.l 69), .mv (.l 68), none⟩,
            ⟨(.l 70), .mv (.p 6), some ((.l 69), true)⟩,
            ⟨(.l 71), .pick (.l 69) (.l 70) (.c (.bool false)), none⟩,
            ⟨(.l 72), .mv (.l 71), none⟩,
            ⟨(.l 73), .mv (.p 9), some ((.l 72), true)⟩,
            ⟨(.l 74), .bin .eql (.l 73) (.c (.int .i64 (1))), some ((.l 72), true)⟩,
            ⟨(.l 75), .pick (.l 72) (.l 74) (.c (.bool false)), none⟩])
          (.cond (.l 75)
           (.seq (.region [⟨(.l 76), .mv (.p 0), none⟩,
              ⟨(.l 77), .mv (.p 1), none⟩,
              ⟨(.l 78), .mv (.p 2), none⟩,
              ⟨(.l 79), .mv (.p 4), none⟩,
              ⟨(.l 80), .call (.c (.fn (.func 236) [] [])) [(.l 76), (.l 77), (.l 78), (.l 79)], none⟩])
            (.cond (.l 80)
             (.ret)
             (.skip)))
           (.skip)))
         (.seq (.seq (.draw [(⟨(.l 81), .mv (.p 1), none⟩, []),
             (⟨(.l 82), .bin .gtr (.l 81) (.c (.int .i64 (0))), none⟩, []),
             (⟨(.l 83), .mv (.l 82), none⟩, []),
             (⟨(.l 84), .mv (.p 4), some ((.l 83), true)⟩, []),
             (⟨(.l 85), .mv (.p 0), some ((.l 83), true)⟩, [3]),
             (⟨(.l 86), .mv (.p 1), some ((.l 83), true)⟩, [3, 4]),
             (⟨(.l 87), .bin .sub (.l 86) (.c (.int .i64 (1))), some ((.l 83), true)⟩, [3, 4]),
             (⟨(.l 88), .iaddr none 3 (.l 85) (.l 87), some ((.l 83), true)⟩, [3]),
             (⟨(.l 89), .load 3 true (.l 88), some ((.l 83), true)⟩, [3]),
             (⟨(.l 90), .mv (.p 0), some ((.l 83), true)⟩, [3, 4, 5, 6, 7, 8]),
             (⟨(.l 91), .mv (.p 8), some ((.l 83), true)⟩, [3, 4, 5, 6, 7, 8, 9]),
             (⟨(.l 92), .iaddr none 3 (.l 90) (.l 91), some ((.l 83), true)⟩, [3, 4, 5, 6, 7, 8]),
             (⟨(.l 93), .load 3 true (.l 92), some ((.l 83), true)⟩, [3, 4, 5, 6, 7, 8]),
             (⟨(.l 94), .call (.l 84) [(.l 89), (.l 93)], some ((.l 83), true)⟩, []),
             (⟨(.l 95), .bin .lss (.l 94) (.c (.int .i64 (0))), some ((.l 83), true)⟩, []),
             (⟨(.l 96), .un .not (.l 95), some ((.l 83), true)⟩, []),
             (⟨(.l 97), .pick (.l 83) (.l 96) (.c (.bool false)), none⟩, [])])
           (.cond (.l 97)
            (.seq (.region [⟨(.l 98), .mv (.p 0), none⟩,
               ⟨(.l 99), .mv (.p 1), none⟩,
               ⟨(.l 100), .mv (.p 2), none⟩,
               ⟨(.l 101), .mv (.p 8), none⟩,
               ⟨(.l 102), .mv (.p 4), none⟩,
               ⟨(.l 103), .call (.c (.fn (.func 237) [] [])) [(.l 98), (.l 99), (.l 100), (.l 101), (.l 102)], none⟩,
               ⟨(.p 10), .mv (.l 103), none⟩])
             (.seq (.region [⟨(.l 104), .mv (.p 10), none⟩,
                ⟨(.p 1), .mv (.l 104), none⟩])
              (.exit 1)))
            (.skip)))
          (.seq (.region [⟨(.l 106), .mv (.p 0), none⟩,
             ⟨(.l 107), .mv (.p 1), none⟩,
             ⟨(.l 108), .mv (.p 2), none⟩,
             ⟨(.l 109), .mv (.p 8), none⟩,
             ⟨(.l 110), .mv (.p 4), none⟩,
             ⟨(.l 111), .call (.c (.fn (.func 238) [] [])) [(.l 106), (.l 107), (.l 108), (.l 109), (.l 110)], none⟩,
             ⟨(.l 105), .mv (.l 111), none⟩,
             ⟨(.l 112), .extract 0 (.l 105), none⟩,
             ⟨(.l 113), .extract 1 (.l 105), none⟩,
             ⟨(.p 11), .mv (.l 112), none⟩,
             ⟨(.p 12), .mv (.l 113), none⟩])
           (.seq (.region [⟨(.l 114), .mv (.p 12), none⟩,
              ⟨(.p 6), .mv (.l 114), none⟩])
            (.seq (.region [⟨(.l 115), .mv (.p 11), none⟩,
               ⟨(.l 116), .mv (.p 1), none⟩,
               ⟨(.l 117), .bin .sub (.l 115) (.l 116), none⟩,
               ⟨(.l 118), .mv (.p 2), none⟩,
               ⟨(.l 119), .mv (.p 11), none⟩,
               ⟨(.l 120), .bin .sub (.l 118) (.l 119), none⟩,
               ⟨(.p 13), .mv (.l 117), none⟩,
               ⟨(.p 14), .mv (.l 120), none⟩])
             (.seq (.region [⟨(.l 121), .mv (.p 7), none⟩,
                ⟨(.l 122), .bin .quo (.l 121) (.c (.int .i64 (8))), none⟩,
                ⟨(.p 15), .mv (.l 122), none⟩])
              (.seq (.region [⟨(.l 123), .mv (.p 13), none⟩,
                 ⟨(.l 124), .mv (.p 14), none⟩,
                 ⟨(.l 125), .bin .lss (.l 123) (.l 124), none⟩])
               (.cond (.l 125)
                (.seq (.region [⟨(.l 126), .mv (.p 13), none⟩,
                   ⟨(.l 127), .mv (.p 15), none⟩,
                   ⟨(.l 128), .bin .geq (.l 126) (.l 127), none⟩,
                   ⟨(.p 5), .mv (.l 128), none⟩])
                 (.seq (.region [⟨(.l 129), .mv (.p 0), none⟩,
                    ⟨(.l 130), .mv (.p 1), none⟩,
                    ⟨(.l 131), .mv (.p 11), none⟩,
                    ⟨(.l 132), .mv (.p 3), none⟩,
                    ⟨(.l 133), .mv (.p 4), none⟩,
                    ⟨(.l 134), .call (.c (.fn (.func 190) [] [])) [(.l 129), (.l 130), (.l 131), (.l 132), (.l 133)], none⟩])
                  (.region [⟨(.l 135), .mv (.p 11), none⟩,
                    ⟨(.l 136), .bin .add (.l 135) (.c (.int .i64 (1))), none⟩,
                    ⟨(.p 1), .mv (.l 136), none⟩])))
                (.seq (.region [⟨(.l 137), .mv (.p 14), none⟩,
                   ⟨(.l 138), .mv (.p 15), none⟩,
                   ⟨(.l 139), .bin .geq (.l 137) (.l 138), none⟩,
                   ⟨(.p 5), .mv (.l 139), none⟩])
                 (.seq (.region [⟨(.l 140), .mv (.p 0), none⟩,
                    ⟨(.l 141), .mv (.p 11), none⟩,
                    ⟨(.l 142), .bin .add (.l 141) (.c (.int .i64 (1))), none⟩,
                    ⟨(.l 143), .mv (.p 2), none⟩,
                    ⟨(.l 144), .mv (.p 3), none⟩,
                    ⟨(.l 145), .mv (.p 4), none⟩,
                    ⟨(.l 146), .call (.c (.fn (.func 190) [] [])) [(.l 140), (.l 142), (.l 143), (.l 144), (.l 145)], none⟩])
                  (.region [⟨(.l 147), .mv (.p 11), none⟩,
                    ⟨(.p 2), .mv (.l 147), none⟩])))))))))))))))))
/-- slices.pdqsortCmpFunc[stadion/api.Mark] -/
def b190 : ICode :=
 .seq (.region [⟨(.p 5), .mv (.c (.bool true)), none⟩])
  (.seq (.region [⟨(.p 6), .mv (.c (.bool true)), none⟩])
   (.block 0
    (.loop b190_0)))
theorem ft190 : FT 190 = some ⟨148, [0, 1, 2, 3, 4, 10, 11, 12, 13, 14, 15, 16, 17, 18, 19, 20], [], b190⟩ := by kernel_rfl

/-- math/bits.Len -/
def b191 : ICode :=
 .seq (.region [⟨(.p 1), .mv (.c (.int .i64 (0))), none⟩])
  (.seq (.cond (.c (.bool false))
    (.seq (.region [⟨(.l 3), .mv (.p 0), none⟩,
       ⟨(.l 4), .convInt .u32 (.l 3), none⟩,
       ⟨(.l 5), .call (.c (.fn (.func 239) [] [])) [(.l 4)], none⟩,
       ⟨(.p 1), .mv (.l 5), none⟩])
     (.ret))
    (.skip))
   (.seq (.region [⟨(.l 6), .mv (.p 0), none⟩,
      ⟨(.l 7), .call (.c (.fn (.func 240) [] [])) [(.l 6)], none⟩,
      ⟨(.p 1), .mv (.l 7), none⟩])
    (.ret)))
theorem ft191 : FT 191 = some ⟨8, [0, 2], [.var (.p 1)], b191⟩ := by kernel_rfl

/-- math/bits.Len64 -/
def b240 : ICode :=
 .seq (.region [⟨(.p 1), .mv (.c (.int .i64 (0))), none⟩])
  (.seq (.seq (.region [⟨(.l 3), .mv (.p 0), none⟩,
      ⟨(.l 4), .bin .geq (.l 3) (.c (.int .u64 (4294967296))), none⟩])
    (.cond (.l 4)
     (.seq (.region [⟨(.l 5), .mv (.p 0), none⟩,
        ⟨(.l 6), .bin .shr (.l 5) (.c (.int .u64 (32))), none⟩,
        ⟨(.p 0), .mv (.l 6), none⟩])
      (.region [⟨(.p 1), .mv (.c (.int .i64 (32))), none⟩]))
     (.skip)))
   (.seq (.seq (.region [⟨(.l 7), .mv (.p 0), none⟩,
       ⟨(.l 8), .bin .geq (.l 7) (.c (.int .u64 (65536))), none⟩])
     (.cond (.l 8)
      (.seq (.region [⟨(.l 9), .mv (.p 0), none⟩,
         ⟨(.l 10), .bin .shr (.l 9) (.c (.int .u64 (16))), none⟩,
         ⟨(.p 0), .mv (.l 10), none⟩])
       (.region [⟨(.l 11), .mv (.p 1), none⟩,
         ⟨(.l 12), .bin .add (.l 11) (.c (.int .i64 (16))), none⟩,
         ⟨(.p 1), .mv (.l 12), none⟩]))
      (.skip)))
    (.seq (.seq (.region [⟨(.l 13), .mv (.p 0), none⟩,
        ⟨(.l 14), .bin .geq (.l 13) (.c (.int .u64 (256))), none⟩])
      (.cond (.l 14)
       (.seq (.region [⟨(.l 15), .mv (.p 0), none⟩,
          ⟨(.l 16), .bin .shr (.l 15) (.c (.int .u64 (8))), none⟩,
          ⟨(.p 0), .mv (.l 16), none⟩])
        (.region [⟨(.l 17), .mv (.p 1), none⟩,
          ⟨(.l 18), .bin .add (.l 17) (.c (.int .i64 (8))), none⟩,
          ⟨(.p 1), .mv (.l 18), none⟩]))
       (.skip)))
     (.seq (.region [⟨(.l 19), .mv (.p 1), none⟩,
        ⟨(.l 20), .mv (.p 0), none⟩,
        ⟨(.l 21), .convInt .u8 (.l 20), none⟩,
        ⟨(.l 22), .index (.c (.str [0, 1, 2, 2, 3, 3, 3, 3, 4, 4, 4, 4, 4, 4, 4, 4, 5, 5, 5, 5, 5, 5, 5, 5, 5, 5, 5, 5, 5, 5, 5, 5, 6, 6, 6, 6, 6, 6, 6, 6, 6, 6, 6, 6, 6, 6, 6, 6, 6, 6, 6, 6, 6, 6, 6, 6, 6, 6, 6, 6, 6, 6, 6, 6, 7, 7, 7, 7, 7, 7, 7, 7, 7, 7, 7, 7, 7, 7, 7, 7, 7, 7, 7, 7, 7, 7, 7, 7, 7, 7, 7, 7, 7, 7, 7, 7, 7, 7, 7, 7, 7, 7, 7, 7, 7, 7, 7, 7, 7, 7, 7, 7, 7, 7, 7, 7, 7, 7, 7, 7, 7, 7, 7, 7, 7, 7, 7, 7, 8, 8, 8, 8, 8, 8, 8, 8, 8, 8, 8, 8, 8, 8, 8, 8, 8, 8, 8, 8, 8, 8, 8, 8, 8, 8, 8, 8, 8, 8, 8, 8, 8, 8, 8, 8, 8, 8, 8, 8, 8, 8, 8, 8, 8, 8, 8, 8, 8, 8, 8, 8, 8, 8, 8, 8, 8, 8, 8, 8, 8, 8, 8, 8, 8, 8, 8, 8, 8, 8, 8, 8, 8, 8, 8, 8, 8, 8, 8, 8, 8, 8, 8, 8, 8, 8, 8, 8, 8, 8, 8, 8, 8, 8, 8, 8, 8, 8, 8, 8, 8, 8, 8, 8, 8, 8, 8, 8, 8, 8, 8, 8, 8, 8, 8, 8, 8, 8, 8, 8, 8, 8, 8, 8, 8, 8, 8, 8])) (.l 21), none⟩,
        ⟨(.l 23), .convInt .i64 (.l 22), none⟩,
        ⟨(.l 24), .bin .add (.l 19) (.l 23), none⟩,
        ⟨(.p 1), .mv (.l 24), none⟩])
      (.ret)))))
theorem ft240 : FT 240 = some ⟨25, [0, 2], [.var (.p 1)], b240⟩ := by kernel_rfl

def b231_0 : ICode :=
 .seq (.seq (.draw [(⟨(.l 18), .mv (.p 5), none⟩, []),
     (⟨(.l 19), .mv (.p 1), none⟩, [0]),
     (⟨(.l 20), .bin .gtr (.l 18) (.l 19), none⟩, []),
     (⟨(.l 21), .mv (.l 20), none⟩, []),
     (⟨(.l 22), .mv (.p 3), some ((.l 21), true)⟩, []),
     (⟨(.l 23), .mv (.p 0), some ((.l 21), true)⟩, [4]),
     (⟨(.l 24), .mv (.p 5), some ((.l 21), true)⟩, [4, 5]),
     (⟨(.l 25), .iaddr none 3 (.l 23) (.l 24), some ((.l 21), true)⟩, [4]),
     (⟨(.l 26), .load 3 true (.l 25), some ((.l 21), true)⟩, [4]),
     (⟨(.l 27), .mv (.p 0), some ((.l 21), true)⟩, [4, 5, 6, 7, 8]),
     (⟨(.l 28), .mv (.p 5), some ((.l 21), true)⟩, [4, 5, 6, 7, 8, 9]),
     (⟨(.l 29), .bin .sub (.l 28) (.c (.int .i64 (1))), some ((.l 21), true)⟩, [4, 5, 6, 7, 8, 9]),
     (⟨(.l 30), .iaddr none 3 (.l 27) (.l 29), some ((.l 21), true)⟩, [4, 5, 6, 7, 8]),
     (⟨(.l 31), .load 3 true (.l 30), some ((.l 21), true)⟩, [4, 5, 6, 7, 8]),
     (⟨(.l 32), .call (.l 22) [(.l 26), (.l 31)], some ((.l 21), true)⟩, []),
     (⟨(.l 33), .bin .lss (.l 32) (.c (.int .i64 (0))), some ((.l 21), true)⟩, []),
     (⟨(.l 34), .pick (.l 21) (.l 33) (.c (.bool false)), none⟩, [])])
   (.cond (.l 34)
    (.skip)
    (.exit 2)))
  (.seq (.block 3
    (.draw [(⟨(.l 37), .mv (.p 0), none⟩, []),
      (⟨(.l 38), .mv (.p 5), none⟩, [0]),
      (⟨(.l 39), .mv (.p 0), none⟩, [0, 1]),
      (⟨(.l 40), .mv (.p 5), none⟩, [0, 1, 2]),
      (⟨(.l 41), .bin .sub (.l 40) (.c (.int .i64 (1))), none⟩, [0, 1, 2]),
      (⟨(.l 42), .mv (.p 0), none⟩, [0, 1, 2, 3, 4]),
      (⟨(.l 43), .mv (.p 5), none⟩, [0, 1, 2, 3, 4, 5]),
      (⟨(.l 44), .bin .sub (.l 43) (.c (.int .i64 (1))), none⟩, [0, 1, 2, 3, 4, 5]),
      (⟨(.l 45), .iaddr none 3 (.l 42) (.l 44), none⟩, [0, 1, 2, 3, 4]),
      (⟨(.l 46), .load 3 true (.l 45), none⟩, [0, 1, 2, 3, 4]),
      (⟨(.l 47), .mv (.p 0), none⟩, [0, 1, 2, 3, 4, 5, 6, 7, 8, 9]),
      (⟨(.l 48), .mv (.p 5), none⟩, [0, 1, 2, 3, 4, 5, 6, 7, 8, 9, 10]),
      (⟨(.l 49), .iaddr none 3 (.l 47) (.l 48), none⟩, [0, 1, 2, 3, 4, 5, 6, 7, 8, 9]),
      (⟨(.l 50), .load 3 true (.l 49), none⟩, [0, 1, 2, 3, 4, 5, 6, 7, 8, 9]),
      (⟨(.l 51), .iaddr none 3 (.l 37) (.l 38), none⟩, [2, 3, 4]),
      (⟨.no, .store 3 (.l 51) (.l 46), none⟩, [2, 3, 4]),
      (⟨(.l 52), .iaddr none 3 (.l 39) (.l 41), none⟩, []),
      (⟨.no, .store 3 (.l 52) (.l 50), none⟩, [])]))
   (.region [⟨(.l 35), .mv (.p 5), none⟩,
     ⟨(.l 36), .bin .sub (.l 35) (.c (.int .i64 (1))), none⟩,
     ⟨(.p 5), .mv (.l 36), none⟩]))
def b231_1 : ICode :=
 .seq (.seq (.region [⟨(.l 12), .mv (.p 4), none⟩,
     ⟨(.l 13), .mv (.p 2), none⟩,
     ⟨(.l 14), .bin .lss (.l 12) (.l 13), none⟩])
   (.cond (.l 14)
    (.skip)
    (.exit 0)))
  (.seq (.block 1
    (.seq (.region [⟨(.l 17), .mv (.p 4), none⟩,
       ⟨(.p 5), .mv (.l 17), none⟩])
     (.block 2
      (.loop b231_0))))
   (.region [⟨(.l 15), .mv (.p 4), none⟩,
     ⟨(.l 16), .bin .add (.l 15) (.c (.int .i64 (1))), none⟩,
     ⟨(.p 4), .mv (.l 16), none⟩]))
/-- slices.insertionSortCmpFunc[stadion/api.Mark] -/
def b231 : ICode :=
 .seq (.region [⟨(.l 10), .mv (.p 1), none⟩,
    ⟨(.l 11), .bin .add (.l 10) (.c (.int .i64 (1))), none⟩,
    ⟨(.p 4), .mv (.l 11), none⟩])
  (.block 0
   (.loop b231_1))
theorem ft231 : FT 231 = some ⟨53, [0, 1, 2, 3, 8, 9], [], b231⟩ := by kernel_rfl

end Go.Ab.Ch1


/-
  Own work: slices.SortFunc over marks: the insertion sort, and what the sort's functions share.
-/
namespace Go.Ab.Ch1
open Go.Sort (swp insInner insOuter insertionSort)
variable {M : Mach} {h : Heap} {b n : Nat} {cap : Option Nat} {g : AV}

abbrev fnM (k : Nat) : AV := .fn (.func k) [] []
abbrev Mk := List UInt8 × Int × List UInt8
abbrev cm (m : Mk) : List AV := [.str m.1, .int .i64 m.2.1, .str m.2.2]
abbrev am (m : Mk) : AV := .agg [.str m.1, .int .i64 m.2.1, .str m.2.2]
/-- The heap with the marks in their block. -/
abbrev mh (h : Heap) (b : Nat) (l : List Mk) : Heap := h.put b (some (.cells (arr cm l) 49))
/-- What is asked of the comparison: it reads nothing but its arguments. -/
def CmpM (M : Mach) (g : AV) (c : Mk → Mk → Int) : Prop := ∀ x y hp, CT M g [am x, am y] hp ⟨.int .i64 (c x y), hp, []⟩
def ltOf (c : Mk → Mk → Int) (x y : Mk) : Bool := decide (c x y < 0)
theorem lt_t {c : Mk → Mk → Int} {x y : Mk} (h : c x y < 0) : ltOf c x y = true := decide_eq_true h
theorem lt_f {c : Mk → Mk → Int} {x y : Mk} (h : ¬ c x y < 0) : ltOf c x y = false := decide_eq_false h
theorem at_list (d : Array Mk) (i : Nat) : d.toList[i]! = d[i]! := Array.getElem!_toList
theorem swp_list (d : Array Mk) (i j : Nat) : (swp d i j).toList = (d.toList.set i d.toList[j]!).set j d.toList[i]! := by
  rw [at_list, at_list, swp, Array.toList_setIfInBounds, Array.toList_setIfInBounds]
theorem swp_len (d : Array Mk) (i j : Nat) : (swp d i j).size = d.size := by simp [swp]

variable {c : Mk → Mk → Int}
theorem loop231_0 (hb : b < h.length) (hn : n < 2305843009213693952) (hc : CmpM M g c) (a : Nat) (a2 a4 : AV) {Q : Ex → StW → Prop} : ∀ (j : Nat) (d : Array Mk) (lo : List (Nat × AV)) (wr : List Nat), d.size = n → j < n → Only b wr →
    (∀ x lo wr, Only b wr → Q (.exit 2) ⟨⟨[.sl b 0 n 3 cap, .int .i64 a, a2, g, a4, x], lo, mh h b (insInner (ltOf c) a j d).toList, []⟩, wr⟩) →
    W M (.loop b231_0) ⟨⟨[.sl b 0 n 3 cap, .int .i64 a, a2, g, a4, .int .i64 j], lo, mh h b d.toList, []⟩, wr⟩ Q := by
  intro j
  induction j with
  | zero =>
    intro d lo wr hl hj hw hQ
    refine W.loop ?_
    unfold b231_0
    repeat' first | apply W.seq | apply SQn | apply W.region | apply WO.nil | apply W.block | apply W.ret | apply W.exit | apply W.skip | apply SQr | apply SQe | apply BQn | apply BQr | apply BQe | (apply BQo; exact rfl) | apply LQe | apply LQr | (apply W.drawro; exact rfl) | apply W.draw | apply WD.nil | (apply WD.gT; exact rfl) | (apply WD.gF; exact rfl) | (apply WD.sT; exact rfl) | (apply WD.sF; exact rfl) | (apply WD.sU; exact rfl) | (apply WD.pure1; exact rfl) | (apply WD.load1; exact rfl; exact rfl; exact rfl) | (apply WD.store1; exact rfl; exact rfl; exact rfl) | (apply WD.clb; exact rfl; exact rfl; exact rfl; exact rfl; all_goals first | (intro h; exact absurd h (by decide)) | intro _) | (apply WD.cl0; exact rfl; exact rfl; exact rfl; exact rfl) | (apply WD.cl1; exact rfl; exact rfl; exact rfl; exact rfl) | (apply W.condT; exact rfl) | (apply W.condF; exact rfl) | (apply W.cond; exact rfl; all_goals intro _) | (apply WO.gT; exact rfl) | (apply WO.gF; exact rfl) | (apply WO.sT; exact rfl) | (apply WO.sF; exact rfl) | (apply WO.sU; exact rfl) | (apply WO.lss; exact rfl; exact rfl; all_goals first | (intro _; exfalso; omega) | intro _) | (apply WO.gtr; exact rfl; exact rfl; all_goals first | (intro _; exfalso; omega) | intro _) | (apply WO.pkT; exact rfl; exact rfl) | (apply WO.pkF; exact rfl; exact rfl) | (apply WO.sub; exact rfl; exact rfl; omega) | (apply WO.iav; exact rfl; exact rfl; omega) | (apply WO.ias; exact rfl; exact rfl; omega) | (apply WO.lda; exact rfl; exact fun _ => rfl; (first | omega | (simp only [List.length_set]; omega) | (simp; omega)); decide; exact rfl; case ia => infer_instance) | (apply WO.lsa; exact rfl; (first | exact rfl | assumption | exact at_new | (apply at_old; assumption) | (apply at_put; first | assumption | (simp only [put_length]; assumption))); exact fun _ => rfl; (first | omega | (simp only [List.length_set]; omega) | (simp; omega)); decide; exact rfl; case ia => infer_instance) | (apply WO.sta; exact rfl; exact rfl; (first | exact rfl | assumption | exact at_new | (apply at_old; assumption) | (apply at_put; first | assumption | (simp only [put_length]; assumption))); exact fun _ => rfl; (first | omega | (simp only [List.length_set]; omega) | (simp; omega)); exact ⟨rfl, by decide, rfl⟩; exact rfl; case ia => infer_instance) | (apply WO.clb; exact rfl; exact rfl; exact rfl; all_goals first | (intro h; exact absurd h (by decide)) | intro _) | (apply WO.cll; exact rfl; exact rfl; exact rfl) | (apply WO.hlv; exact rfl; exact rfl; exact rfl) | (apply WO.hpv; exact rfl; exact rfl; exact rfl) | (apply WO.hnv; exact rfl; exact rfl; exact rfl) | (apply WO.pl; exact rfl; exact rfl) | (apply WO.pp; exact rfl; exact rfl)
    exact hQ _ _ _ hw
  | succ j ih =>
    intro d lo wr hl hj hw hQ
    have f1 : ((j + 1 : Nat) : Int).toNat = j + 1 := by omega
    have f2 : (((j + 1 : Nat) : Int) - 1).toNat = j := by omega
    have hl' : d.toList.length = n := by simp [hl]
    refine W.loop ?_
    by_cases h1 : j + 1 > a
    · have hcc : CT M g [am d.toList[((j + 1 : Nat) : Int).toNat]!, am d.toList[(((j + 1 : Nat) : Int) - 1).toNat]!] (mh h b d.toList) ⟨.int .i64 (c d[j + 1]! d[j]!), mh h b d.toList, []⟩ := by
        rw [f1, f2, at_list, at_list]; exact hc _ _ _
      by_cases h2 : c d[j + 1]! d[j]! < 0
      · have e : insInner (ltOf c) a (j + 1) d = insInner (ltOf c) a j (swp d (j + 1) j) := by rw [insInner, lt_t h2, decide_eq_true h1]; rfl
        rw [e] at hQ
        unfold b231_0
        repeat' first | apply W.seq | apply SQn | apply W.region | apply WO.nil | apply W.block | apply W.ret | apply W.exit | apply W.skip | apply SQr | apply SQe | apply BQn | apply BQr | apply BQe | (apply BQo; exact rfl) | apply LQe | apply LQr | (apply W.drawro; exact rfl) | apply W.draw | apply WD.nil | (apply WD.gT; exact rfl) | (apply WD.gF; exact rfl) | (apply WD.sT; exact rfl) | (apply WD.sF; exact rfl) | (apply WD.sU; exact rfl) | (apply WD.pure1; exact rfl) | (apply WD.load1; exact rfl; exact rfl; exact rfl) | (apply WD.store1; exact rfl; exact rfl; exact rfl) | (apply WD.clb; exact rfl; exact rfl; exact rfl; exact rfl; all_goals first | (intro h; exact absurd h (by decide)) | intro _) | (apply WD.cl0; exact rfl; exact rfl; exact rfl; exact rfl) | (apply WD.cl1; exact rfl; exact rfl; exact rfl; exact rfl) | (apply W.condT; exact rfl) | (apply W.condF; exact rfl) | (apply W.cond; exact rfl; all_goals intro _) | (apply WO.gT; exact rfl) | (apply WO.gF; exact rfl) | (apply WO.sT; exact rfl) | (apply WO.sF; exact rfl) | (apply WO.sU; exact rfl) | (apply WO.lss; exact rfl; exact rfl; all_goals first | (intro _; exfalso; omega) | intro _) | (apply WO.gtr; exact rfl; exact rfl; all_goals first | (intro _; exfalso; omega) | intro _) | (apply WO.pkT; exact rfl; exact rfl) | (apply WO.pkF; exact rfl; exact rfl) | (apply WO.sub; exact rfl; exact rfl; omega) | (apply WO.ct; exact rfl; exact rfl; first | exact hcc) | (apply WO.ctn; exact rfl; exact rfl; first | exact hcc) | (apply WD.ct; exact rfl; exact rfl; exact rfl; first | exact hcc) | (apply WO.iav; exact rfl; exact rfl; omega) | (apply WO.ias; exact rfl; exact rfl; omega) | (apply WO.lda; exact rfl; exact fun _ => rfl; (first | omega | (simp only [List.length_set]; omega) | (simp; omega)); decide; exact rfl; case ia => infer_instance) | (apply WO.lsa; exact rfl; (first | exact rfl | assumption | exact at_new | (apply at_old; assumption) | (apply at_put; first | assumption | (simp only [put_length]; assumption))); exact fun _ => rfl; (first | omega | (simp only [List.length_set]; omega) | (simp; omega)); decide; exact rfl; case ia => infer_instance) | (apply WO.sta; exact rfl; exact rfl; (first | exact rfl | assumption | exact at_new | (apply at_old; assumption) | (apply at_put; first | assumption | (simp only [put_length]; assumption))); exact fun _ => rfl; (first | omega | (simp only [List.length_set]; omega) | (simp; omega)); exact ⟨rfl, by decide, rfl⟩; exact rfl; case ia => infer_instance) | (apply WO.clb; exact rfl; exact rfl; exact rfl; all_goals first | (intro h; exact absurd h (by decide)) | intro _) | (apply WO.cll; exact rfl; exact rfl; exact rfl) | (apply WO.hlv; exact rfl; exact rfl; exact rfl) | (apply WO.hpv; exact rfl; exact rfl; exact rfl) | (apply WO.hnv; exact rfl; exact rfl; exact rfl) | (apply WO.pl; exact rfl; exact rfl) | (apply WO.pp; exact rfl; exact rfl)
        refine LQn ?_
        rw [put_put, put_put, f1, f2, ← swp_list, show (((j + 1 : Nat) : Int) - 1) = ((j : Nat) : Int) by omega]
        exact ih _ _ _ (by rw [swp_len, hl]) (by omega) hw.cons.cons hQ
      · have e : insInner (ltOf c) a (j + 1) d = d := by rw [insInner, lt_f h2]; simp
        rw [e] at hQ
        unfold b231_0
        repeat' first | apply W.seq | apply SQn | apply W.region | apply WO.nil | apply W.block | apply W.ret | apply W.exit | apply W.skip | apply SQr | apply SQe | apply BQn | apply BQr | apply BQe | (apply BQo; exact rfl) | apply LQe | apply LQr | (apply W.drawro; exact rfl) | apply W.draw | apply WD.nil | (apply WD.gT; exact rfl) | (apply WD.gF; exact rfl) | (apply WD.sT; exact rfl) | (apply WD.sF; exact rfl) | (apply WD.sU; exact rfl) | (apply WD.pure1; exact rfl) | (apply WD.load1; exact rfl; exact rfl; exact rfl) | (apply WD.store1; exact rfl; exact rfl; exact rfl) | (apply WD.clb; exact rfl; exact rfl; exact rfl; exact rfl; all_goals first | (intro h; exact absurd h (by decide)) | intro _) | (apply WD.cl0; exact rfl; exact rfl; exact rfl; exact rfl) | (apply WD.cl1; exact rfl; exact rfl; exact rfl; exact rfl) | (apply W.condT; exact rfl) | (apply W.condF; exact rfl) | (apply W.cond; exact rfl; all_goals intro _) | (apply WO.gT; exact rfl) | (apply WO.gF; exact rfl) | (apply WO.sT; exact rfl) | (apply WO.sF; exact rfl) | (apply WO.sU; exact rfl) | (apply WO.lss; exact rfl; exact rfl; all_goals first | (intro _; exfalso; omega) | intro _) | (apply WO.gtr; exact rfl; exact rfl; all_goals first | (intro _; exfalso; omega) | intro _) | (apply WO.pkT; exact rfl; exact rfl) | (apply WO.pkF; exact rfl; exact rfl) | (apply WO.sub; exact rfl; exact rfl; omega) | (apply WO.ct; exact rfl; exact rfl; first | exact hcc) | (apply WO.ctn; exact rfl; exact rfl; first | exact hcc) | (apply WD.ct; exact rfl; exact rfl; exact rfl; first | exact hcc) | (apply WO.iav; exact rfl; exact rfl; omega) | (apply WO.ias; exact rfl; exact rfl; omega) | (apply WO.lda; exact rfl; exact fun _ => rfl; (first | omega | (simp only [List.length_set]; omega) | (simp; omega)); decide; exact rfl; case ia => infer_instance) | (apply WO.lsa; exact rfl; (first | exact rfl | assumption | exact at_new | (apply at_old; assumption) | (apply at_put; first | assumption | (simp only [put_length]; assumption))); exact fun _ => rfl; (first | omega | (simp only [List.length_set]; omega) | (simp; omega)); decide; exact rfl; case ia => infer_instance) | (apply WO.sta; exact rfl; exact rfl; (first | exact rfl | assumption | exact at_new | (apply at_old; assumption) | (apply at_put; first | assumption | (simp only [put_length]; assumption))); exact fun _ => rfl; (first | omega | (simp only [List.length_set]; omega) | (simp; omega)); exact ⟨rfl, by decide, rfl⟩; exact rfl; case ia => infer_instance) | (apply WO.clb; exact rfl; exact rfl; exact rfl; all_goals first | (intro h; exact absurd h (by decide)) | intro _) | (apply WO.cll; exact rfl; exact rfl; exact rfl) | (apply WO.hlv; exact rfl; exact rfl; exact rfl) | (apply WO.hpv; exact rfl; exact rfl; exact rfl) | (apply WO.hnv; exact rfl; exact rfl; exact rfl) | (apply WO.pl; exact rfl; exact rfl) | (apply WO.pp; exact rfl; exact rfl)
        exact hQ _ _ _ hw
    · have e : insInner (ltOf c) a (j + 1) d = d := by rw [insInner, decide_eq_false h1]; simp
      rw [e] at hQ
      unfold b231_0
      repeat' first | apply W.seq | apply SQn | apply W.region | apply WO.nil | apply W.block | apply W.ret | apply W.exit | apply W.skip | apply SQr | apply SQe | apply BQn | apply BQr | apply BQe | (apply BQo; exact rfl) | apply LQe | apply LQr | (apply W.drawro; exact rfl) | apply W.draw | apply WD.nil | (apply WD.gT; exact rfl) | (apply WD.gF; exact rfl) | (apply WD.sT; exact rfl) | (apply WD.sF; exact rfl) | (apply WD.sU; exact rfl) | (apply WD.pure1; exact rfl) | (apply WD.load1; exact rfl; exact rfl; exact rfl) | (apply WD.store1; exact rfl; exact rfl; exact rfl) | (apply WD.clb; exact rfl; exact rfl; exact rfl; exact rfl; all_goals first | (intro h; exact absurd h (by decide)) | intro _) | (apply WD.cl0; exact rfl; exact rfl; exact rfl; exact rfl) | (apply WD.cl1; exact rfl; exact rfl; exact rfl; exact rfl) | (apply W.condT; exact rfl) | (apply W.condF; exact rfl) | (apply W.cond; exact rfl; all_goals intro _) | (apply WO.gT; exact rfl) | (apply WO.gF; exact rfl) | (apply WO.sT; exact rfl) | (apply WO.sF; exact rfl) | (apply WO.sU; exact rfl) | (apply WO.lss; exact rfl; exact rfl; all_goals first | (intro _; exfalso; omega) | intro _) | (apply WO.gtr; exact rfl; exact rfl; all_goals first | (intro _; exfalso; omega) | intro _) | (apply WO.pkT; exact rfl; exact rfl) | (apply WO.pkF; exact rfl; exact rfl) | (apply WO.sub; exact rfl; exact rfl; omega) | (apply WO.iav; exact rfl; exact rfl; omega) | (apply WO.ias; exact rfl; exact rfl; omega) | (apply WO.lda; exact rfl; exact fun _ => rfl; (first | omega | (simp only [List.length_set]; omega) | (simp; omega)); decide; exact rfl; case ia => infer_instance) | (apply WO.lsa; exact rfl; (first | exact rfl | assumption | exact at_new | (apply at_old; assumption) | (apply at_put; first | assumption | (simp only [put_length]; assumption))); exact fun _ => rfl; (first | omega | (simp only [List.length_set]; omega) | (simp; omega)); decide; exact rfl; case ia => infer_instance) | (apply WO.sta; exact rfl; exact rfl; (first | exact rfl | assumption | exact at_new | (apply at_old; assumption) | (apply at_put; first | assumption | (simp only [put_length]; assumption))); exact fun _ => rfl; (first | omega | (simp only [List.length_set]; omega) | (simp; omega)); exact ⟨rfl, by decide, rfl⟩; exact rfl; case ia => infer_instance) | (apply WO.clb; exact rfl; exact rfl; exact rfl; all_goals first | (intro h; exact absurd h (by decide)) | intro _) | (apply WO.cll; exact rfl; exact rfl; exact rfl) | (apply WO.hlv; exact rfl; exact rfl; exact rfl) | (apply WO.hpv; exact rfl; exact rfl; exact rfl) | (apply WO.hnv; exact rfl; exact rfl; exact rfl) | (apply WO.pl; exact rfl; exact rfl) | (apply WO.pp; exact rfl; exact rfl)
      exact hQ _ _ _ hw

theorem insInner_size (lt : Mk → Mk → Bool) (a : Nat) : ∀ (j : Nat) (d : Array Mk), (insInner lt a j d).size = d.size
  | 0, _ => rfl
  | j + 1, d => by
    rw [insInner]
    split
    · rw [insInner_size lt a j, swp_len]
    · rfl

theorem loop231_1 (hb : b < h.length) (hn : n < 2305843009213693952) (hc : CmpM M g c) (a e : Nat) (he : e ≤ n) {Q : Ex → StW → Prop} : ∀ (r i : Nat) (d : Array Mk) (a5 : AV) (lo : List (Nat × AV)) (wr : List Nat), e - i = r → d.size = n → i ≤ n + 1 → Only b wr →
    (∀ x j lo wr, Only b wr → Q (.exit 0) ⟨⟨[.sl b 0 n 3 cap, .int .i64 a, .int .i64 e, g, x, j], lo, mh h b (insOuter (ltOf c) a e i d).toList, []⟩, wr⟩) →
    W M (.loop b231_1) ⟨⟨[.sl b 0 n 3 cap, .int .i64 a, .int .i64 e, g, .int .i64 i, a5], lo, mh h b d.toList, []⟩, wr⟩ Q := by
  intro r
  induction r with
  | zero =>
    intro i d a5 lo wr hr hl hi hw hQ
    have e' : insOuter (ltOf c) a e i d = d := by rw [insOuter, if_neg (by omega)]
    rw [e'] at hQ
    refine W.loop ?_
    unfold b231_1
    repeat' first | apply W.seq | apply SQn | apply W.region | apply WO.nil | apply W.block | apply W.ret | apply W.exit | apply W.skip | apply SQr | apply SQe | apply BQn | apply BQr | apply BQe | (apply BQo; exact rfl) | apply LQe | apply LQr | (apply W.condT; exact rfl) | (apply W.condF; exact rfl) | (apply W.cond; exact rfl; all_goals intro _) | (apply WO.lss; exact rfl; exact rfl; all_goals first | (intro _; exfalso; omega) | intro _) | (apply WO.add; exact rfl; exact rfl; omega) | (apply WO.pl; exact rfl; exact rfl) | (apply WO.pp; exact rfl; exact rfl)
    exact hQ _ _ _ _ hw
  | succ r ih =>
    intro i d a5 lo wr hr hl hi hw hQ
    have e' : insOuter (ltOf c) a e i d = insOuter (ltOf c) a e (i + 1) (insInner (ltOf c) a i d) := by rw [insOuter, if_pos (by omega)]
    rw [e'] at hQ
    refine W.loop ?_
    unfold b231_1
    repeat' first | apply W.seq | apply SQn | apply W.region | apply WO.nil | apply W.block | apply W.ret | apply W.exit | apply W.skip | apply SQr | apply SQe | apply BQn | apply BQr | apply BQe | (apply BQo; exact rfl) | apply LQe | apply LQr | (apply W.condT; exact rfl) | (apply W.condF; exact rfl) | (apply W.cond; exact rfl; all_goals intro _) | (apply WO.lss; exact rfl; exact rfl; all_goals first | (intro _; exfalso; omega) | intro _) | (apply WO.add; exact rfl; exact rfl; omega) | (apply WO.pl; exact rfl; exact rfl) | (apply WO.pp; exact rfl; exact rfl)
    refine loop231_0 hb hn hc a _ _ i d _ _ hl (by omega) hw (fun x lo wr hw => ?_)
    repeat' first | apply W.seq | apply SQn | apply W.region | apply WO.nil | apply W.block | apply W.ret | apply W.exit | apply W.skip | apply SQr | apply SQe | apply BQn | apply BQr | apply BQe | (apply BQo; exact rfl) | apply LQe | apply LQr | (apply W.condT; exact rfl) | (apply W.condF; exact rfl) | (apply W.cond; exact rfl; all_goals intro _) | (apply WO.lss; exact rfl; exact rfl; all_goals first | (intro _; exfalso; omega) | intro _) | (apply WO.add; exact rfl; exact rfl; omega) | (apply WO.pl; exact rfl; exact rfl) | (apply WO.pp; exact rfl; exact rfl)
    refine LQn ?_
    rw [show ((i : Int) + 1) = ((i + 1 : Nat) : Int) by omega]
    exact ih (i + 1) _ _ _ _ (by omega) (by rw [insInner_size, hl]) (by omega) hw hQ

/-- A run that rearranges the marks in their block, on whatever heap. -/
theorem run_mh {l : List Mk} {f N : Nat} {pers : List Nat} {body : ICode} {ars : List AV} {l' : List Mk} (hft : M.FT f = some ⟨N, pers, [], body⟩) (hN : ars.length ≤ N) (hx : ∀ ars h, M.ext f ars h = none) (hb : b < h.length)
    (hW : W M body ⟨⟨pers.map (fun t => (ars[t]?).getD undefA), [], mh h b l, []⟩, []⟩ fun e s => (e = .normal ∨ e = .ret) ∧ s.s.dfs = [] ∧ ∃ lo, s.s.hp = lo ∧ Only b s.wr ∧ lo = mh h b l') : ∃ wr, Only b wr ∧ CT M (fnM f) ars (mh h b l) ⟨.tup [], mh h b l', wr⟩ := by
  obtain ⟨l2, wr, hw, rfl, hr⟩ := run_put (M := M) (l := l) (e := 49) (f := cm) (P := fun x => x = l') hft hN hb (fun _ => rfl) (hW.mono fun e s ⟨h1, h2, lo, h3, h4, h5⟩ => ⟨h1, h2, l', by rw [h3, h5], h4, rfl⟩)
  exact ⟨wr, hw, CT.run (hx _ _) (by simpa using hr)⟩
end Go.Ab.Ch1


/-
  Own work: slices.SortFunc over at most twelve marks.
-/
namespace Go.Ab.Ch1
open Go.Sort (swp insInner insOuter insertionSort PermIn SortedIn SWO)
variable {M : Mach} {h : Heap} {b n : Nat} {cap : Option Nat} {g : AV} {c : Mk → Mk → Int}

/-- The machine knows none of these by a contract. -/
structure CPq (M : Mach) : Prop where
  ft : M.FT = FT
  n131 : ∀ ars h, M.ext 131 ars h = none
  n190 : ∀ ars h, M.ext 190 ars h = none
  n191 : ∀ ars h, M.ext 191 ars h = none
  n231 : ∀ ars h, M.ext 231 ars h = none
  n240 : ∀ ars h, M.ext 240 ars h = none

theorem r231 (C : CPq M) (hb : b < h.length) (hn : n < 2305843009213693952) (hc : CmpM M g c) (d : Array Mk) (hd : d.size = n) (a e : Nat) (ha : a ≤ n) (he : e ≤ n) :
    ∃ wr, Only b wr ∧ CT M (fnM 231) [.sl b 0 n 3 cap, .int .i64 a, .int .i64 e, g] (mh h b d.toList) ⟨.tup [], mh h b (insertionSort (ltOf c) d a e).toList, wr⟩ := by
  refine run_mh (by rw [C.ft]; exact ft231) (by simp) C.n231 hb ?_
  unfold b231
  simp only [List.map_cons, List.map_nil, List.getElem?_cons_zero, List.getElem?_cons_succ, List.getElem?_nil, Option.getD_some, Option.getD_none]
  repeat' first | apply W.seq | apply SQn | apply W.region | apply WO.nil | apply W.block | apply W.ret | apply W.exit | apply W.skip | apply SQr | apply SQe | apply BQn | apply BQr | apply BQe | (apply BQo; exact rfl) | apply LQe | apply LQr | (apply W.condT; exact rfl) | (apply W.condF; exact rfl) | (apply W.cond; exact rfl; all_goals intro _) | (apply WO.add; exact rfl; exact rfl; omega) | (apply WO.pl; exact rfl; exact rfl) | (apply WO.pp; exact rfl; exact rfl)
  rw [show ((a : Int) + 1) = ((a + 1 : Nat) : Int) by omega]
  refine loop231_1 hb hn hc a e he _ (a + 1) d _ _ _ rfl hd (by omega) Only.nil (fun x j lo wr hw => ?_)
  repeat' first | apply W.seq | apply SQn | apply W.region | apply WO.nil | apply W.block | apply W.ret | apply W.exit | apply W.skip | apply SQr | apply SQe | apply BQn | apply BQr | apply BQe | (apply BQo; exact rfl) | apply LQe | apply LQr | (apply W.condT; exact rfl) | (apply W.condF; exact rfl) | (apply W.cond; exact rfl; all_goals intro _) | (apply WO.add; exact rfl; exact rfl; omega) | (apply WO.pl; exact rfl; exact rfl) | (apply WO.pp; exact rfl; exact rfl)
  exact ⟨.inl rfl, rfl, _, rfl, hw, rfl⟩

set_option maxRecDepth 10000 in
/-- math/bits.Len of a small number: no more than a byte. -/
theorem r240 (C : CPq M) (m : Nat) (hm : m < 256) (hp : Heap) : ∃ r : Int, (0 ≤ r ∧ r < 256) ∧ CT M (fnM 240) [.int .u64 m] hp ⟨.int .i64 r, hp, []⟩ := by
  obtain ⟨v, ⟨r, rfl, h1⟩, h2⟩ := run_sameE (M := M) (h := hp) (ars := [.int .u64 m]) (P := fun v => ∃ r : Int, v = .int .i64 r ∧ 0 ≤ r ∧ r < 256) (by rw [C.ft]; exact ft240) (by simp) (by
    simp only [List.map_cons, List.map_nil, List.getElem?_cons_zero, List.getElem?_cons_succ, List.getElem?_nil, Option.getD_some, Option.getD_none]
    unfold b240
    repeat' first | (apply WO.idxr; exact rfl; exact rfl; exact ⟨by omega, Int.lt_of_lt_of_le (b := 256) (by omega) (Int.ofNat_le.2 (Nat.le_of_eq rfl))⟩; intro _ _ _) | (apply WO.cv8; exact rfl; omega) | apply W.seq | apply SQn | apply W.region | apply WO.nil | apply W.block | apply W.ret | apply W.exit | apply W.skip | apply SQr | apply SQe | apply BQn | apply BQr | apply BQe | (apply BQo; exact rfl) | apply LQe | apply LQr | (apply W.condT; exact rfl) | (apply W.condF; exact rfl) | (apply W.cond; exact rfl; all_goals intro _) | (apply WO.geq; exact rfl; exact rfl; all_goals first | (intro _; exfalso; omega) | intro _) | (apply WO.cvi; exact rfl; omega) | (apply WO.shr1; exact rfl) | (apply WO.add; exact rfl; exact rfl; omega) | (apply WO.idx; exact rfl; exact rfl; omega) | (apply WO.pl; exact rfl; exact rfl) | (apply WO.pp; exact rfl; exact rfl)
    rename_i r h1 h2
    exact ⟨.inr rfl, rfl, rfl, rfl, _, rfl, _, rfl, by omega⟩)
  exact ⟨r, h1, CT.run (C.n240 _ _) (by simpa using h2)⟩
theorem r191 (C : CPq M) (m : Nat) (hm : m < 256) (hp : Heap) : ∃ r : Int, (0 ≤ r ∧ r < 256) ∧ CT M (fnM 191) [.int .u64 m] hp ⟨.int .i64 r, hp, []⟩ := by
  obtain ⟨r, hr, hc⟩ := r240 C m hm hp
  refine ⟨r, hr, CT.run (C.n191 _ _) ?_⟩
  refine run_same (by rw [C.ft]; exact ft191) (by simp) ?_
  unfold b191
  simp only [List.map_cons, List.map_nil, List.getElem?_cons_zero, List.getElem?_cons_succ, List.getElem?_nil, Option.getD_some, Option.getD_none]
  repeat' first | apply W.seq | apply SQn | apply W.region | apply WO.nil | apply W.block | apply W.ret | apply W.exit | apply W.skip | apply SQr | apply SQe | apply BQn | apply BQr | apply BQe | (apply BQo; exact rfl) | apply LQe | apply LQr | (apply W.condT; exact rfl) | (apply W.condF; exact rfl) | (apply W.cond; exact rfl; all_goals intro _) | (apply WO.ct; exact rfl; exact rfl; first | exact hc) | (apply WO.ctn; exact rfl; exact rfl; first | exact hc) | (apply WD.ct; exact rfl; exact rfl; exact rfl; first | exact hc) | (apply WO.clb; exact rfl; exact rfl; exact rfl; all_goals first | (intro h; exact absurd h (by decide)) | intro _) | (apply WO.cll; exact rfl; exact rfl; exact rfl) | (apply WO.pl; exact rfl; exact rfl) | (apply WO.pp; exact rfl; exact rfl)
  exact ⟨.inr rfl, rfl, rfl, rfl, _, rfl, rfl⟩

/-- What slices.SortFunc is asked for: it leaves the marks sorted. -/
def SortsM (M : Mach) (g : AV) (c : Mk → Mk → Int) (m : Nat) : Prop := ∀ (h : Heap) (b : Nat) (cap : Option Nat) (l : List Mk), b < h.length → l.length ≤ m →
  ∃ l' wr, Only b wr ∧ l'.Perm l ∧ (∀ i j, i < j → j < l'.length → ¬ c l'[j]! l'[i]! < 0) ∧ CT M (fnM 131) [.sl b 0 l.length 3 cap, g] (mh h b l) ⟨.tup [], mh h b l', wr⟩

theorem swo_of {c : Mk → Mk → Int} {key : Mk → Int} (h : ∀ x y, c x y < 0 ↔ key y < key x) : SWO (ltOf c) where
  irrefl x := decide_eq_false (by rw [h]; omega)
  trans x y z h1 h2 := by
    have h1 := of_decide_eq_true h1; have h2 := of_decide_eq_true h2
    rw [h] at h1 h2
    exact decide_eq_true (by rw [h]; omega)
  ntrans x y z h1 h2 := by
    have h1 := of_decide_eq_false h1; have h2 := of_decide_eq_false h2
    rw [h] at h1 h2
    exact decide_eq_false (by rw [h]; omega)

theorem sorted_of {d d' : Array Mk} (h : PermIn 0 d.size d d' ∧ SortedIn (ltOf c) 0 d.size d') : d'.toList.Perm d.toList ∧ ∀ i j, i < j → j < d'.toList.length → ¬ c d'.toList[j]! d'.toList[i]! < 0 := by
  obtain ⟨⟨h1, _, h3⟩, h4⟩ := h
  refine ⟨?_, fun i j hij hj => ?_⟩
  · have e : (d'.extract 0 d.size) = d' := by rw [← h1]; simp
    rw [e] at h3
    simpa using h3
  · have := h4 i j (Nat.zero_le _) hij (by rw [← h1]; simpa using hj)
    rw [at_list, at_list]
    exact of_decide_eq_false this

end Go.Ab.Ch1


/-
  Own work: slices.Clone and slices.BinarySearchFunc over marks.
-/
namespace Go.Ab.Ch1
variable {M : Mach} {b n : Nat} {cap : Option Nat} {g : AV} {c : Mk → Mk → Int}

/-- What a slice's cells say, as marks. -/
def decMks : List AV → Option (List Mk)
  | [] => some []
  | .str k :: .int .i64 v :: .str r :: l => (decMks l).map ((k, v, r) :: ·)
  | _ => none
theorem decMks_arr : ∀ l : List Mk, decMks (arr cm l) = some l
  | [] => rfl
  | (k, v, r) :: l => by
    have := decMks_arr l
    simp only [arr] at this
    simp only [arr, List.flatMap_cons, cm, List.cons_append, List.nil_append, decMks, this, Option.map_some]
theorem decMks_eq : ∀ {cs : List AV} {l : List Mk}, decMks cs = some l → cs = arr cm l
  | [], l, h => by simp only [decMks, Option.some.injEq] at h; subst h; rfl
  | x :: cs, l, h => by
    unfold decMks at h
    split at h
    · rename_i h2; cases h2
    · rename_i h2
      cases h2
      simp only [Option.map_eq_some_iff] at h
      obtain ⟨l', h1, rfl⟩ := h
      rw [decMks_eq h1]
      rfl
    · cases h

/-! Slices of marks as arguments. -/
def marksAt (h : Heap) (v : AV) : Option (List Mk) := match cellsAt h v with
  | some (c, n) => match decMks c with
    | some l => if l.length = n then some l else none
    | none => none
  | none => none
theorem marksAt_sl {h : Heap} {v : AV} {l : List Mk} (hi : marksAt h v = some l) : Sl cm h v l := by
  unfold marksAt at hi
  split at hi
  · rename_i c n hc
    split at hi
    · rename_i l' hl
      split at hi
      · rename_i hn
        cases hi
        refine sl_of_cells ?_
        rw [hc, decMks_eq hl, hn]
      · cases hi
    · cases hi
  · cases hi
theorem marksAt_vs {h : Heap} {l : List Mk} {cap : Option Nat} : marksAt h (.vs (arr cm l) l.length cap) = some l := by
  simp only [marksAt, cellsAt, sliceCells, decMks_arr, if_true]

theorem one_cm (l : List Mk) : (arr cm l).all oneA = true := one_arr (fun _ => rfl) l
theorem len_cm (l : List Mk) : (arr cm l).length = l.length * 3 := arr_length (f := cm) (esz := 3) (fun _ => rfl) l
theorem arr_ne {l : List Mk} (h : l ≠ []) : ∃ x r, arr cm l = x :: r := by
  cases l with
  | nil => exact absurd rfl h
  | cons m l => exact ⟨_, _, rfl⟩

/-- slices.Clone of some marks. -/
theorem w130 (hft : M.FT = FT) (l : List Mk) (cap : Option Nat) (hl : l ≠ []) (hn : l.length < 1000000) : Run M 130 [.vs (arr cm l) l.length cap] [] ⟨.sl 1 0 l.length 3 none, [some (.cells [] 49), some (.cells (arr cm l) 49)], []⟩ := by
  have hp : 0 < l.length := List.length_pos_iff.2 hl
  have hs : ∀ h, sliceCells h (.vs (arr cm l) l.length cap) = some (arr cm l, l.length) := fun _ => rfl
  obtain ⟨x, r, hx⟩ := arr_ne hl
  have he : eqRef .slice (.vs (arr cm l) l.length cap) .nilsl = some false := by rw [hx]; rfl
  have hroom : l.length * 40 ≤ roomLimit := by unfold roomLimit; omega
  refine run_of_W (by rw [hft]; exact ft130) (by simp) ?_
  unfold b130
  simp only [List.map_cons, List.map_nil, List.getElem?_cons_zero, List.getElem?_cons_succ, List.getElem?_nil, Option.getD_some, Option.getD_none]
  repeat' first | apply W.seq | apply SQn | apply W.region | apply WO.nil | apply W.block | apply W.ret | apply W.exit | apply W.skip | apply SQr | apply SQe | apply BQn | apply BQr | apply BQe | (apply BQo; exact rfl) | apply LQe | apply LQr | (apply W.condT; exact rfl) | (apply W.condF; exact rfl) | (apply W.cond; exact rfl; all_goals intro _) | (apply WO.eqs; exact rfl; exact rfl; exact he) | (apply WO.apc; exact rfl; exact rfl; exact rfl; exact hs _; exact ⟨len_cm l, by decide, one_cm l⟩; exact ⟨hp, hroom⟩) | (apply WO.hlv; exact rfl; exact rfl; exact rfl) | (apply WO.hpv; exact rfl; exact rfl; exact rfl) | (apply WO.hnv; exact rfl; exact rfl; exact rfl) | (apply WO.pl; exact rfl; exact rfl) | (apply WO.pp; exact rfl; exact rfl)
  exact ⟨.inr rfl, rfl, _, rfl, rfl, rfl⟩
theorem w130nil (hft : M.FT = FT) (h : Heap) : Run M 130 [.nilsl] h ⟨.nilsl, h, []⟩ := by
  refine run_drop (by rw [hft]; exact ft130) (by simp) rfl ?_
  unfold b130
  simp only [List.map_cons, List.map_nil, List.getElem?_cons_zero, List.getElem?_cons_succ, List.getElem?_nil, Option.getD_some, Option.getD_none]
  repeat' first | apply W.seq | apply SQn | apply W.region | apply WO.nil | apply W.block | apply W.ret | apply W.exit | apply W.skip | apply SQr | apply SQe | apply BQn | apply BQr | apply BQe | (apply BQo; exact rfl) | apply LQe | apply LQr | (apply W.condT; exact rfl) | (apply W.condF; exact rfl) | (apply W.cond; exact rfl; all_goals intro _) | (apply WO.hlv; exact rfl; exact rfl; exact rfl) | (apply WO.hpv; exact rfl; exact rfl; exact rfl) | (apply WO.hnv; exact rfl; exact rfl; exact rfl) | (apply WO.pl; exact rfl; exact rfl) | (apply WO.pp; exact rfl; exact rfl)
  exact ⟨.inr rfl, rfl, ⟨[], by simp⟩, fun x hx => (by cases hx), _, rfl, rfl⟩
theorem w130dead (hft : M.FT = FT) (h : Heap) (m : Nat) : Run M 130 [.sl h.length 0 0 3 (some m)] (h ++ [none]) ⟨.sl (h ++ [none]).length 0 0 3 (some 0), (h ++ [none]) ++ [some (.cells [] 49)], []⟩ := by
  have hs : sliceCells ((h ++ [none]) ++ [some (.cells [] 49)]) (.sl h.length 0 0 3 (some m)) = some ([], 0) := by
    simp [sliceCells, Heap.at]
  refine run_of_WH (by rw [hft]; exact ft130) (by simp) ?_
  unfold b130
  simp only [List.map_cons, List.map_nil, List.getElem?_cons_zero, List.getElem?_cons_succ, List.getElem?_nil, Option.getD_some, Option.getD_none]
  repeat' first | apply W.seq | apply SQn | apply W.region | apply WO.nil | apply W.block | apply W.ret | apply W.exit | apply W.skip | apply SQr | apply SQe | apply BQn | apply BQr | apply BQe | (apply BQo; exact rfl) | apply LQe | apply LQr | (apply W.condT; exact rfl) | (apply W.condF; exact rfl) | (apply W.cond; exact rfl; all_goals intro _) | (apply WO.eqs; exact rfl; exact rfl; exact rfl) | (apply WO.ap0; exact rfl; exact rfl; exact hs; decide) | (apply WO.hlv; exact rfl; exact rfl; exact rfl) | (apply WO.hpv; exact rfl; exact rfl; exact rfl) | (apply WO.hnv; exact rfl; exact rfl; exact rfl) | (apply WO.pl; exact rfl; exact rfl) | (apply WO.pp; exact rfl; exact rfl)
  refine ⟨.inr rfl, rfl, _, rfl, ?_⟩
  simp only [retA, tupA, AV.top]
  rw [if_neg (by simp; intro h; omega)]
  rfl

/-- slices.Clone as a contract. -/
def specClone : Spec := fun
  | [.vs cs k _], h => match decMks cs with
    | some [] => if k = 0 then some ⟨.vs [] 0 none, h, []⟩ else none
    | some l => if l.length = k ∧ k < 1000000 then some ⟨.sl h.length 0 k 3 none, h ++ [some (.cells (arr cm l) 49)], []⟩ else none
    | none => none
  | _, _ => none
theorem specClone_nil (cap : Option Nat) (h : Heap) : specClone [.vs (arr cm []) 0 cap] h = some ⟨.vs [] 0 none, h, []⟩ := rfl
theorem specClone_some {l : List Mk} (hl : l ≠ []) (hn : l.length < 1000000) (cap : Option Nat) (h : Heap) : specClone [.vs (arr cm l) l.length cap] h = some ⟨.sl h.length 0 l.length 3 none, h ++ [some (.cells (arr cm l) 49)], []⟩ := by
  simp only [specClone, decMks_arr]
  cases l with
  | nil => exact absurd rfl hl
  | cons m l => exact if_pos ⟨trivial, hn⟩

/-- slices.BinarySearchFunc over marks in their block. -/
theorem loop132 (hc : CmpM M g c) (l : List Mk) (t : Mk) (hn : l.length < 2305843009213693952) (hp : Heap) (hat : hp.at b = some (.cells (arr cm l) 49)) (bx : Nat) (hbx : hp.at bx = some (.cells (cm t) 49)) (p1 p4 p5 p6 : AV) (wr : List Nat)
    (hm : ∀ k k', k < k' → k' < l.length → c l[k']! t < 0 → c l[k]! t < 0) {Q : Ex → StW → Prop} : ∀ (r i j : Nat) (a9 : AV) (lo : List (Nat × AV)), j - i ≤ r → i ≤ j → j ≤ l.length → (∀ k, k < i → c l[k]! t < 0) → (∀ k, j ≤ k → k < l.length → ¬ c l[k]! t < 0) →
    (∀ (i : Nat) a9 lo, i ≤ l.length → (∀ k, k < i → c l[k]! t < 0) → (∀ k, i ≤ k → k < l.length → ¬ c l[k]! t < 0) → Q (.exit 0) ⟨⟨[.sl b 0 l.length 3 cap, p1, g, .ptr bx 0, p4, p5, p6, .int .i64 i, .int .i64 i, a9], lo, hp, []⟩, wr⟩) →
    W M (.loop b132_0) ⟨⟨[.sl b 0 l.length 3 cap, p1, g, .ptr bx 0, p4, p5, p6, .int .i64 i, .int .i64 j, a9], lo, hp, []⟩, wr⟩ Q := by
  intro r
  induction r with
  | zero =>
    intro i j a9 lo hr h2 h3 h4 h5 hQ
    obtain rfl : i = j := by omega
    refine W.loop ?_
    unfold b132_0
    repeat' first | apply W.seq | apply SQn | apply W.region | apply WO.nil | apply W.block | apply W.ret | apply W.exit | apply W.skip | apply SQr | apply SQe | apply BQn | apply BQr | apply BQe | (apply BQo; exact rfl) | apply LQe | apply LQr | (apply W.drawro; exact rfl) | apply W.draw | apply WD.nil | (apply WD.gT; exact rfl) | (apply WD.gF; exact rfl) | (apply WD.sT; exact rfl) | (apply WD.sF; exact rfl) | (apply WD.sU; exact rfl) | (apply WD.pure1; exact rfl) | (apply WD.load1; exact rfl; exact rfl; exact rfl) | (apply WD.clb; exact rfl; exact rfl; exact rfl; exact rfl; all_goals first | (intro h; exact absurd h (by decide)) | intro _) | (apply WD.cl0; exact rfl; exact rfl; exact rfl; exact rfl) | (apply WD.cl1; exact rfl; exact rfl; exact rfl; exact rfl) | (apply W.condT; exact rfl) | (apply W.condF; exact rfl) | (apply W.cond; exact rfl; all_goals intro _) | (apply WO.lss; exact rfl; exact rfl; all_goals first | (intro _; exfalso; omega) | intro _) | (apply WO.cvu; exact rfl; omega) | (apply WO.cvi; exact rfl; omega) | (apply WO.shr1; exact rfl) | (apply WO.add; exact rfl; exact rfl; omega) | (apply WO.iav; exact rfl; exact rfl; omega) | (apply WO.ias; exact rfl; exact rfl; omega) | (apply WO.lda; exact rfl; exact fun _ => rfl; (first | omega | (simp only [List.length_set]; omega) | (simp; omega)); decide; exact rfl; case ia => infer_instance) | (apply WO.lsa; exact rfl; (first | exact rfl | assumption | exact at_new | (apply at_old; assumption) | (apply at_put; first | assumption | (simp only [put_length]; assumption))); exact fun _ => rfl; (first | omega | (simp only [List.length_set]; omega) | (simp; omega)); decide; exact rfl; case ia => infer_instance) | (apply WO.clb; exact rfl; exact rfl; exact rfl; all_goals first | (intro h; exact absurd h (by decide)) | intro _) | (apply WO.cll; exact rfl; exact rfl; exact rfl) | (apply WO.hlv; exact rfl; exact rfl; exact rfl) | (apply WO.hpv; exact rfl; exact rfl; exact rfl) | (apply WO.hnv; exact rfl; exact rfl; exact rfl) | (apply WO.pl; exact rfl; exact rfl) | (apply WO.pp; exact rfl; exact rfl)
    · exact hQ i _ _ h3 h4 h5
  | succ r ih =>
    intro i j a9 lo hr h2 h3 h4 h5 hQ
    refine W.loop ?_
    rcases Nat.eq_or_lt_of_le h2 with rfl | hlt
    · unfold b132_0
      repeat' first | apply W.seq | apply SQn | apply W.region | apply WO.nil | apply W.block | apply W.ret | apply W.exit | apply W.skip | apply SQr | apply SQe | apply BQn | apply BQr | apply BQe | (apply BQo; exact rfl) | apply LQe | apply LQr | (apply W.drawro; exact rfl) | apply W.draw | apply WD.nil | (apply WD.gT; exact rfl) | (apply WD.gF; exact rfl) | (apply WD.sT; exact rfl) | (apply WD.sF; exact rfl) | (apply WD.sU; exact rfl) | (apply WD.pure1; exact rfl) | (apply WD.load1; exact rfl; exact rfl; exact rfl) | (apply WD.clb; exact rfl; exact rfl; exact rfl; exact rfl; all_goals first | (intro h; exact absurd h (by decide)) | intro _) | (apply WD.cl0; exact rfl; exact rfl; exact rfl; exact rfl) | (apply WD.cl1; exact rfl; exact rfl; exact rfl; exact rfl) | (apply W.condT; exact rfl) | (apply W.condF; exact rfl) | (apply W.cond; exact rfl; all_goals intro _) | (apply WO.lss; exact rfl; exact rfl; all_goals first | (intro _; exfalso; omega) | intro _) | (apply WO.cvu; exact rfl; omega) | (apply WO.cvi; exact rfl; omega) | (apply WO.shr1; exact rfl) | (apply WO.add; exact rfl; exact rfl; omega) | (apply WO.iav; exact rfl; exact rfl; omega) | (apply WO.ias; exact rfl; exact rfl; omega) | (apply WO.lda; exact rfl; exact fun _ => rfl; (first | omega | (simp only [List.length_set]; omega) | (simp; omega)); decide; exact rfl; case ia => infer_instance) | (apply WO.lsa; exact rfl; (first | exact rfl | assumption | exact at_new | (apply at_old; assumption) | (apply at_put; first | assumption | (simp only [put_length]; assumption))); exact fun _ => rfl; (first | omega | (simp only [List.length_set]; omega) | (simp; omega)); decide; exact rfl; case ia => infer_instance) | (apply WO.clb; exact rfl; exact rfl; exact rfl; all_goals first | (intro h; exact absurd h (by decide)) | intro _) | (apply WO.cll; exact rfl; exact rfl; exact rfl) | (apply WO.hlv; exact rfl; exact rfl; exact rfl) | (apply WO.hpv; exact rfl; exact rfl; exact rfl) | (apply WO.hnv; exact rfl; exact rfl; exact rfl) | (apply WO.pl; exact rfl; exact rfl) | (apply WO.pp; exact rfl; exact rfl)
      · exact hQ i _ _ h3 h4 h5
    · obtain ⟨H, hH⟩ : ∃ H, H = (i + j) / 2 := ⟨_, rfl⟩
      have eH : ((i : Int) + (j : Int)) / 2 = (H : Int) := by omega
      have eH' : (((i : Int) + (j : Int)) / 2).toNat = H := by omega
      have hHl : (((i : Int) + (j : Int)) / 2).toNat < l.length := by omega
      have hcc : CT M g [am l[(((i : Int) + (j : Int)) / 2).toNat]!, am t] hp ⟨.int .i64 (c l[H]! t), hp, []⟩ := by rw [eH']; exact hc _ _ _
      by_cases hd : c l[H]! t < 0
      · unfold b132_0
        repeat' first | (apply WO.ldb; exact rfl; exact hbx; exact rfl) | apply W.seq | apply SQn | apply W.region | apply WO.nil | apply W.block | apply W.ret | apply W.exit | apply W.skip | apply SQr | apply SQe | apply BQn | apply BQr | apply BQe | (apply BQo; exact rfl) | apply LQe | apply LQr | (apply W.drawro; exact rfl) | apply W.draw | apply WD.nil | (apply WD.gT; exact rfl) | (apply WD.gF; exact rfl) | (apply WD.sT; exact rfl) | (apply WD.sF; exact rfl) | (apply WD.sU; exact rfl) | (apply WD.pure1; exact rfl) | (apply WD.load1; exact rfl; exact rfl; exact rfl) | (apply WD.clb; exact rfl; exact rfl; exact rfl; exact rfl; all_goals first | (intro h; exact absurd h (by decide)) | intro _) | (apply WD.cl0; exact rfl; exact rfl; exact rfl; exact rfl) | (apply WD.cl1; exact rfl; exact rfl; exact rfl; exact rfl) | (apply W.condT; exact rfl) | (apply W.condF; exact rfl) | (apply W.cond; exact rfl; all_goals intro _) | (apply WO.lss; exact rfl; exact rfl; all_goals first | (intro _; exfalso; omega) | intro _) | (apply WO.cvu; exact rfl; omega) | (apply WO.cvi; exact rfl; omega) | (apply WO.shr1; exact rfl) | (apply WO.add; exact rfl; exact rfl; omega) | (apply WO.ct; exact rfl; exact rfl; first | exact hcc) | (apply WO.ctn; exact rfl; exact rfl; first | exact hcc) | (apply WD.ct; exact rfl; exact rfl; exact rfl; first | exact hcc) | (apply WO.iav; exact rfl; exact rfl; omega) | (apply WO.ias; exact rfl; exact rfl; omega) | (apply WO.lda; exact rfl; exact fun _ => rfl; (first | omega | (simp only [List.length_set]; omega) | (simp; omega)); decide; exact rfl; case ia => infer_instance) | (apply WO.lsa; exact rfl; (first | exact rfl | assumption | exact at_new | (apply at_old; assumption) | (apply at_put; first | assumption | (simp only [put_length]; assumption))); exact fun _ => rfl; (first | omega | (simp only [List.length_set]; omega) | (simp; omega)); decide; exact rfl; case ia => infer_instance) | (apply WO.clb; exact rfl; exact rfl; exact rfl; all_goals first | (intro h; exact absurd h (by decide)) | intro _) | (apply WO.cll; exact rfl; exact rfl; exact rfl) | (apply WO.hlv; exact rfl; exact rfl; exact rfl) | (apply WO.hpv; exact rfl; exact rfl; exact rfl) | (apply WO.hnv; exact rfl; exact rfl; exact rfl) | (apply WO.pl; exact rfl; exact rfl) | (apply WO.pp; exact rfl; exact rfl)
        refine LQn ?_
        rw [eH]
        exact ih (H + 1) j _ _ (by omega) (by omega) h3 (fun k hk => by
          rcases Nat.lt_or_eq_of_le (Nat.le_of_lt_succ hk) with hk | rfl
          · exact hm k H hk (by omega) hd
          · exact hd) h5 hQ
      · unfold b132_0
        repeat' first | (apply WO.ldb; exact rfl; exact hbx; exact rfl) | apply W.seq | apply SQn | apply W.region | apply WO.nil | apply W.block | apply W.ret | apply W.exit | apply W.skip | apply SQr | apply SQe | apply BQn | apply BQr | apply BQe | (apply BQo; exact rfl) | apply LQe | apply LQr | (apply W.drawro; exact rfl) | apply W.draw | apply WD.nil | (apply WD.gT; exact rfl) | (apply WD.gF; exact rfl) | (apply WD.sT; exact rfl) | (apply WD.sF; exact rfl) | (apply WD.sU; exact rfl) | (apply WD.pure1; exact rfl) | (apply WD.load1; exact rfl; exact rfl; exact rfl) | (apply WD.clb; exact rfl; exact rfl; exact rfl; exact rfl; all_goals first | (intro h; exact absurd h (by decide)) | intro _) | (apply WD.cl0; exact rfl; exact rfl; exact rfl; exact rfl) | (apply WD.cl1; exact rfl; exact rfl; exact rfl; exact rfl) | (apply W.condT; exact rfl) | (apply W.condF; exact rfl) | (apply W.cond; exact rfl; all_goals intro _) | (apply WO.lss; exact rfl; exact rfl; all_goals first | (intro _; exfalso; omega) | intro _) | (apply WO.cvu; exact rfl; omega) | (apply WO.cvi; exact rfl; omega) | (apply WO.shr1; exact rfl) | (apply WO.add; exact rfl; exact rfl; omega) | (apply WO.ct; exact rfl; exact rfl; first | exact hcc) | (apply WO.ctn; exact rfl; exact rfl; first | exact hcc) | (apply WD.ct; exact rfl; exact rfl; exact rfl; first | exact hcc) | (apply WO.iav; exact rfl; exact rfl; omega) | (apply WO.ias; exact rfl; exact rfl; omega) | (apply WO.lda; exact rfl; exact fun _ => rfl; (first | omega | (simp only [List.length_set]; omega) | (simp; omega)); decide; exact rfl; case ia => infer_instance) | (apply WO.lsa; exact rfl; (first | exact rfl | assumption | exact at_new | (apply at_old; assumption) | (apply at_put; first | assumption | (simp only [put_length]; assumption))); exact fun _ => rfl; (first | omega | (simp only [List.length_set]; omega) | (simp; omega)); decide; exact rfl; case ia => infer_instance) | (apply WO.clb; exact rfl; exact rfl; exact rfl; all_goals first | (intro h; exact absurd h (by decide)) | intro _) | (apply WO.cll; exact rfl; exact rfl; exact rfl) | (apply WO.hlv; exact rfl; exact rfl; exact rfl) | (apply WO.hpv; exact rfl; exact rfl; exact rfl) | (apply WO.hnv; exact rfl; exact rfl; exact rfl) | (apply WO.pl; exact rfl; exact rfl) | (apply WO.pp; exact rfl; exact rfl)
        refine LQn ?_
        rw [eH]
        exact ih i H _ _ (by omega) (by omega) (by omega) h4 (fun k hk1 hk2 => by
          rcases Nat.lt_or_eq_of_le hk1 with hk | rfl
          · exact fun hd' => hd (hm H k hk hk2 hd')
          · exact hd) hQ
set_option maxHeartbeats 1000000 in
theorem r132 (hft : M.FT = FT) (hx : ∀ ars h, M.ext 132 ars h = none) (hc : CmpM M g c) (l : List Mk) (t : Mk) (hn : l.length < 1000000) (hp : Heap) (hat : hp.at b = some (.cells (arr cm l) 49))
    (hm : ∀ k k', k < k' → k' < l.length → c l[k']! t < 0 → c l[k]! t < 0) :
    ∃ (p : Nat) (f : Bool), (∀ k, k < p → c l[k]! t < 0) ∧ (∀ k, p ≤ k → k < l.length → ¬ c l[k]! t < 0) ∧ p ≤ l.length ∧ CT M (fnM 132) [.sl b 0 l.length 3 cap, am t, g] hp ⟨.tup [.int .i64 p, .bool f], hp, []⟩ := by
  obtain ⟨v, ⟨p, f, rfl, h1, h2, h3⟩, hr⟩ := run_dropE (M := M) (h := hp) (ars := [.sl b 0 l.length 3 cap, am t, g]) (P := fun v => ∃ (p : Nat) (f : Bool), v = .tup [.int .i64 p, .bool f] ∧ (∀ k, k < p → c l[k]! t < 0) ∧ (∀ k, p ≤ k → k < l.length → ¬ c l[k]! t < 0) ∧ p ≤ l.length) (by rw [hft]; exact ft132) (by simp) (by rintro v ⟨p, f, rfl, _⟩; rfl) (by
    have hat' : Heap.at (hp ++ [some (.cells (cm t) 49)]) b = some (.cells (arr cm l) 49) := at_old hat
    unfold b132
    simp only [List.map_cons, List.map_nil, List.getElem?_cons_zero, List.getElem?_cons_succ, List.getElem?_nil, Option.getD_some, Option.getD_none]
    repeat' first | apply W.seq | apply SQn | apply W.region | apply WO.nil | apply W.block | apply W.ret | apply W.exit | apply W.skip | apply SQr | apply SQe | apply BQn | apply BQr | apply BQe | (apply BQo; exact rfl) | apply LQe | apply LQr | (apply W.drawro; exact rfl) | apply W.draw | apply WD.nil | (apply WD.gT; exact rfl) | (apply WD.gF; exact rfl) | (apply WD.sT; exact rfl) | (apply WD.sF; exact rfl) | (apply WD.sU; exact rfl) | (apply WD.pure1; exact rfl) | (apply WD.load1; exact rfl; exact rfl; exact rfl) | (apply WD.new1; exact rfl) | (apply WD.clb; exact rfl; exact rfl; exact rfl; exact rfl; all_goals first | (intro h; exact absurd h (by decide)) | intro _) | (apply WD.cl0; exact rfl; exact rfl; exact rfl; exact rfl) | (apply WD.cl1; exact rfl; exact rfl; exact rfl; exact rfl) | (apply W.condT; exact rfl) | (apply W.condF; exact rfl) | (apply W.cond; exact rfl; all_goals intro _) | (apply WO.gT; exact rfl) | (apply WO.gF; exact rfl) | (apply WO.sT; exact rfl) | (apply WO.sF; exact rfl) | (apply WO.sU; exact rfl) | (apply WO.lss; exact rfl; exact rfl; all_goals first | (intro _; exfalso; omega) | intro _) | (apply WO.eql; exact rfl; exact rfl; all_goals first | (intro _; exfalso; omega) | intro _) | (apply WO.pkT; exact rfl; exact rfl) | (apply WO.pkF; exact rfl; exact rfl) | (apply WO.iav; exact rfl; exact rfl; omega) | (apply WO.ias; exact rfl; exact rfl; omega) | (apply WO.lda; exact rfl; exact fun _ => rfl; (first | omega | (simp only [List.length_set]; omega) | (simp; omega)); decide; exact rfl; case ia => infer_instance) | (apply WO.lsa; exact rfl; (first | exact rfl | assumption | exact at_new | (apply at_old; assumption) | (apply at_put; first | assumption | (simp only [put_length]; assumption))); exact fun _ => rfl; (first | omega | (simp only [List.length_set]; omega) | (simp; omega)); decide; exact rfl; case ia => infer_instance) | (apply WO.seql; exact rfl; exact rfl; all_goals first | (intro h; exact absurd h (by decide)) | (intro h; exact absurd rfl h) | (intro h; contradiction) | intro _) | (apply WO.clb; exact rfl; exact rfl; exact rfl; all_goals first | (intro h; exact absurd h (by decide)) | intro _) | (apply WO.cll; exact rfl; exact rfl; exact rfl) | (apply WO.hlv; exact rfl; exact rfl; exact rfl) | (apply WO.hpv; exact rfl; exact rfl; exact rfl) | (apply WO.hnv; exact rfl; exact rfl; exact rfl) | (apply WO.pl; exact rfl; exact rfl) | (apply WO.pp; exact rfl; exact rfl)
    refine loop132 (b := b) (cap := cap) hc l t (by omega) _ hat' hp.length at_new _ _ _ _ _ hm _ 0 l.length _ _ (Nat.le_refl _) (Nat.zero_le _) (Nat.le_refl _) (fun k hk => absurd hk (Nat.not_lt_zero _)) (fun k h1 h2 => by omega) (fun i a9 lo hi h1 h2 => ?_)
    have f1 : ((i : Int)).toNat = i := by omega
    have hcc : CT M g [am l[((i : Int)).toNat]!, am t] (hp ++ [some (.cells (cm t) 49)]) ⟨.int .i64 (c l[i]! t), hp ++ [some (.cells (cm t) 49)], []⟩ := by rw [f1]; exact hc _ _ _
    repeat' first | (apply WO.ldb; exact rfl; exact at_new; exact rfl) | apply W.seq | apply SQn | apply W.region | apply WO.nil | apply W.block | apply W.ret | apply W.exit | apply W.skip | apply SQr | apply SQe | apply BQn | apply BQr | apply BQe | (apply BQo; exact rfl) | apply LQe | apply LQr | (apply W.drawro; exact rfl) | apply W.draw | apply WD.nil | (apply WD.gT; exact rfl) | (apply WD.gF; exact rfl) | (apply WD.sT; exact rfl) | (apply WD.sF; exact rfl) | (apply WD.sU; exact rfl) | (apply WD.pure1; exact rfl) | (apply WD.load1; exact rfl; exact rfl; exact rfl) | (apply WD.new1; exact rfl) | (apply WD.clb; exact rfl; exact rfl; exact rfl; exact rfl; all_goals first | (intro h; exact absurd h (by decide)) | intro _) | (apply WD.cl0; exact rfl; exact rfl; exact rfl; exact rfl) | (apply WD.cl1; exact rfl; exact rfl; exact rfl; exact rfl) | (apply W.condT; exact rfl) | (apply W.condF; exact rfl) | (apply W.cond; exact rfl; all_goals intro _) | (apply WO.gT; exact rfl) | (apply WO.gF; exact rfl) | (apply WO.sT; exact rfl) | (apply WO.sF; exact rfl) | (apply WO.sU; exact rfl) | (apply WO.lss; exact rfl; exact rfl; all_goals first | (intro _; exfalso; omega) | intro _) | (apply WO.eql; exact rfl; exact rfl; all_goals first | (intro _; exfalso; omega) | intro _) | (apply WO.pkT; exact rfl; exact rfl) | (apply WO.pkF; exact rfl; exact rfl) | (apply WO.ct; exact rfl; exact rfl; first | exact hcc) | (apply WO.ctn; exact rfl; exact rfl; first | exact hcc) | (apply WD.ct; exact rfl; exact rfl; exact rfl; first | exact hcc) | (apply WO.iav; exact rfl; exact rfl; omega) | (apply WO.ias; exact rfl; exact rfl; omega) | (apply WO.lda; exact rfl; exact fun _ => rfl; (first | omega | (simp only [List.length_set]; omega) | (simp; omega)); decide; exact rfl; case ia => infer_instance) | (apply WO.lsa; exact rfl; (first | exact rfl | assumption | exact at_new | (apply at_old; assumption) | (apply at_put; first | assumption | (simp only [put_length]; assumption))); exact fun _ => rfl; (first | omega | (simp only [List.length_set]; omega) | (simp; omega)); decide; exact rfl; case ia => infer_instance) | (apply WO.seql; exact rfl; exact rfl; all_goals first | (intro h; exact absurd h (by decide)) | (intro h; exact absurd rfl h) | (intro h; contradiction) | intro _) | (apply WO.clb; exact rfl; exact rfl; exact rfl; all_goals first | (intro h; exact absurd h (by decide)) | intro _) | (apply WO.cll; exact rfl; exact rfl; exact rfl) | (apply WO.hlv; exact rfl; exact rfl; exact rfl) | (apply WO.hpv; exact rfl; exact rfl; exact rfl) | (apply WO.hnv; exact rfl; exact rfl; exact rfl) | (apply WO.pl; exact rfl; exact rfl) | (apply WO.pp; exact rfl; exact rfl)
    all_goals exact ⟨.inr rfl, rfl, ⟨_, rfl⟩, fun x hx => (by cases hx), _, rfl, i, _, rfl, h1, h2, hi⟩)
  exact ⟨p, f, h1, h2, h3, CT.run (hx _ _) (by simpa using hr)⟩
end Go.Ab.Ch1


/-
  Own work: mark.Ranks: the check of the marks, one behind another.
-/
namespace Go.Ab.Ch1
variable {M : Mach} {cap : Option Nat}

def chkM (m : Mk) : Int := chk m.1 m.2.1 m.2.2
def worthM (m : Mk) : Int := worth m.1 m.2.1
def cmpM (a b : Mk) : Int := cmpW (worthM a) (worthM b)
theorem cmpM_lt (a b : Mk) : cmpM a b < 0 ↔ worthM b < worthM a := by
  unfold cmpM cmpW
  split
  · simp_all
  · split
    · constructor
      · intro h; omega
      · intro h; omega
    · constructor
      · intro h; omega
      · intro h; omega
/-- The error of a mark behind those before it. -/
def stepE (v m : Mk) : Int := firstNZ [chkM m, if differ v.1 m.1 then 13 else 0]
/-- The first error of the marks: v is the last one before them that is one. -/
def scan (v : Mk) : List Mk → Int
  | [] => 0
  | m :: r => if stepE v m ≠ 0 then stepE v m else scan (if m.1 = sNone then v else m) r
theorem scan_drop {v : Mk} {l : List Mk} {i : Nat} (h : i < l.length) : scan v (l.drop i) = if stepE v l[i]! ≠ 0 then stepE v l[i]! else scan (if l[i]!.1 = sNone then v else l[i]!) (l.drop (i + 1)) := by
  rw [List.drop_eq_getElem_cons h, getElem!_pos l i h, scan]

structure CRk (M : Mach) : Prop where
  pq : CPq M
  n132 : ∀ ars h, M.ext 132 ars h = none
  c36 : ∀ m h, M.ext 36 [am m] h = some ⟨.int .i64 (chkM m), h, []⟩
  c114 : ∀ a b h, M.ext 114 [am a, am b] h = some ⟨.bool (differ a.1 b.1), h, []⟩
  c97 : ∀ t e h, M.ext 97 [.bool t, .int .i64 e] h = some ⟨.int .i64 (if t then e else 0), h, []⟩
  c96 : ∀ a b (h : Heap), M.ext 96 [.sl h.length 0 2 1 (some 2)] (h ++ [some (.cells [.int .i64 a, .int .i64 b] 25)]) = some ⟨.int .i64 (firstNZ [a, b]), h ++ [some (.cells [.int .i64 a, .int .i64 b] 25)], []⟩
  c115 : CmpM M (fnM 115) cmpM
  c130 : ∀ ars h, M.ext 130 ars h = specClone ars h

set_option maxHeartbeats 2000000 in
theorem loop49_0 (C : CRk M) (l : List Mk) (hn : l.length < 1000000) (a6 a7 a8 a9 a10 a14 a15 a16 : AV) {Q : Ex → StW → Prop} : ∀ (r i : Nat) (v : Mk) (hp : Heap) (a4 a5 : AV) (lo : List (Nat × AV)) (wr : List Nat), i + r = l.length → hp.at 0 = some (.cells (cm v) 49) →
    (scan v (l.drop i) = 0 → ∀ a4 a5 hp lo wr, 0 < hp.length → Q (.exit 0) ⟨⟨[.vs (arr cm l) l.length cap, .nilsl, .int .i64 0, .ptr 0 0, a4, a5, a6, a7, a8, a9, a10, .vs (arr cm l) l.length cap, .int .i64 l.length, .int .i64 l.length, a14, a15, a16], lo, hp, []⟩, wr⟩) →
    (scan v (l.drop i) ≠ 0 → ∀ a4 a5 a13 hp lo wr, Q .ret ⟨⟨[.vs (arr cm l) l.length cap, .nilsl, .int .i64 (scan v (l.drop i)), .ptr 0 0, a4, a5, a6, a7, a8, a9, a10, .vs (arr cm l) l.length cap, .int .i64 l.length, a13, a14, a15, a16], lo, hp, []⟩, wr⟩) →
    W M (.loop b49_0) ⟨⟨[.vs (arr cm l) l.length cap, .nilsl, .int .i64 0, .ptr 0 0, a4, a5, a6, a7, a8, a9, a10, .vs (arr cm l) l.length cap, .int .i64 l.length, .int .i64 i, a14, a15, a16], lo, hp, []⟩, wr⟩ Q := by
  intro r
  induction r with
  | zero =>
    intro i v hp a4 a5 lo wr hi hv h1 h2
    obtain rfl : i = l.length := by omega
    refine W.loop ?_
    unfold b49_0
    repeat' first | apply W.seq | apply SQn | apply W.region | apply WO.nil | apply W.block | apply W.ret | apply W.exit | apply W.skip | apply SQr | apply SQe | apply BQn | apply BQr | apply BQe | (apply BQo; exact rfl) | apply LQe | apply LQr | (apply W.drawro; exact rfl) | apply W.draw | apply WD.nil | (apply WD.gT; exact rfl) | (apply WD.gF; exact rfl) | (apply WD.sT; exact rfl) | (apply WD.sF; exact rfl) | (apply WD.sU; exact rfl) | (apply WD.pure1; exact rfl) | (apply WD.load1; exact rfl; exact rfl; exact rfl) | (apply WD.store1; exact rfl; exact rfl; exact rfl) | (apply WD.new1; exact rfl) | (apply WD.clb; exact rfl; exact rfl; exact rfl; exact rfl; all_goals first | (intro h; exact absurd h (by decide)) | intro _) | (apply WD.cl0; exact rfl; exact rfl; exact rfl; exact rfl) | (apply WD.cl1; exact rfl; exact rfl; exact rfl; exact rfl) | (apply W.condT; exact rfl) | (apply W.condF; exact rfl) | (apply W.cond; exact rfl; all_goals intro _) | (apply WO.lss; exact rfl; exact rfl; all_goals first | (intro _; exfalso; omega) | intro _) | (apply WO.neq; exact rfl; exact rfl; all_goals first | (intro _; exfalso; omega) | intro _) | (apply WO.add; exact rfl; exact rfl; omega) | (apply WO.iav; exact rfl; exact rfl; omega) | (apply WO.ias; exact rfl; exact rfl; omega) | (apply WO.lda; exact rfl; exact fun _ => rfl; (first | omega | (simp only [List.length_set]; omega) | (simp; omega)); decide; exact rfl; case ia => infer_instance) | (apply WO.lsa; exact rfl; (first | exact rfl | assumption | exact at_new | (apply at_old; assumption) | (apply at_put; first | assumption | (simp only [put_length]; assumption))); exact fun _ => rfl; (first | omega | (simp only [List.length_set]; omega) | (simp; omega)); decide; exact rfl; case ia => infer_instance) | (apply WO.sta; exact rfl; exact rfl; (first | exact rfl | assumption | exact at_new | (apply at_old; assumption) | (apply at_put; first | assumption | (simp only [put_length]; assumption))); exact fun _ => rfl; (first | omega | (simp only [List.length_set]; omega) | (simp; omega)); exact ⟨rfl, by decide, rfl⟩; exact rfl; case ia => infer_instance) | (apply WO.ldf; exact rfl; exact fun _ => rfl; (first | omega | (simp only [List.length_set]; omega) | (simp; omega)); decide; exact rfl; case ia => infer_instance) | (apply WO.lsf; exact rfl; (first | exact rfl | assumption | exact at_new | (apply at_old; assumption) | (apply at_put; first | assumption | (simp only [put_length]; assumption))); exact fun _ => rfl; (first | omega | (simp only [List.length_set]; omega) | (simp; omega)); decide; exact rfl; case ia => infer_instance) | (apply WO.stf; exact rfl; exact rfl; (first | exact rfl | assumption | exact at_new | (apply at_old; assumption) | (apply at_put; first | assumption | (simp only [put_length]; assumption))); exact fun _ => rfl; (first | omega | (simp only [List.length_set]; omega) | (simp; omega)); exact ⟨rfl, by decide, rfl⟩; exact rfl; case ia => infer_instance) | (apply WO.sneq; exact rfl; exact rfl; all_goals first | (intro h; exact absurd h (by decide)) | (intro h; exact absurd rfl h) | (intro h; contradiction) | intro _) | (apply WO.clb; exact rfl; exact rfl; exact rfl; all_goals first | (intro h; exact absurd h (by decide)) | intro _) | (apply WO.cll; exact rfl; exact rfl; exact rfl) | (apply WO.hlv; exact rfl; exact rfl; exact rfl) | (apply WO.hpv; exact rfl; exact rfl; exact rfl) | (apply WO.hnv; exact rfl; exact rfl; exact rfl) | (apply WO.pl; exact rfl; exact rfl) | (apply WO.pp; exact rfl; exact rfl)
    exact h1 (by simp [scan]) _ _ _ _ _ (at_lt hv)
  | succ r ih =>
    intro i v hp a4 a5 lo wr hi hv h1 h2
    have hlt := at_lt hv
    have hd := scan_drop (v := v) (l := l) (i := i) (by omega)
    have f1 : ((i : Int)).toNat = i := by omega
    have h0 : (0 : Nat) ≠ hp.length := by omega
    have hm1 : hp.length < (hp ++ [some (Blk.cells [.str [], .int .i64 (0), .str []] 49)]).length := by simp
    have A1 : Heap.at ((hp ++ [some (Blk.cells [.str [], .int .i64 (0), .str []] 49)]).put hp.length (some (Blk.cells (cm l[((i : Int)).toNat]!) 49))) hp.length = some (.cells (cm l[((i : Int)).toNat]!) 49) := at_put hm1
    have A2 : Heap.at ((hp ++ [some (Blk.cells [.str [], .int .i64 (0), .str []] 49)]).put hp.length (some (Blk.cells (cm l[((i : Int)).toNat]!) 49))) 0 = some (.cells (cm v) 49) := at_else h0 (at_old hv)
    have hst : stepE v l[i]! = firstNZ [chkM l[((i : Int)).toNat]!, if differ v.1 l[((i : Int)).toNat]!.1 then 13 else 0] := by rw [f1]; rfl
    rw [hst] at hd
    refine W.loop ?_
    unfold b49_0
    repeat' first | (apply WO.ldb; exact rfl; (first | exact A1 | exact A2 | exact at_old A1); exact rfl) | (apply WO.stw; exact rfl; exact rfl; (first | exact at_new | exact at_old A2); exact ⟨rfl, rfl, rfl⟩) | apply W.seq | apply SQn | apply W.region | apply WO.nil | apply W.block | apply W.ret | apply W.exit | apply W.skip | apply SQr | apply SQe | apply BQn | apply BQr | apply BQe | (apply BQo; exact rfl) | apply LQe | apply LQr | (apply W.drawro; exact rfl) | apply W.draw | apply WD.nil | (apply WD.gT; exact rfl) | (apply WD.gF; exact rfl) | (apply WD.sT; exact rfl) | (apply WD.sF; exact rfl) | (apply WD.sU; exact rfl) | (apply WD.pure1; exact rfl) | (apply WD.load1; exact rfl; exact rfl; exact rfl) | (apply WD.store1; exact rfl; exact rfl; exact rfl) | (apply WD.new1; exact rfl) | (apply WD.clb; exact rfl; exact rfl; exact rfl; exact rfl; all_goals first | (intro h; exact absurd h (by decide)) | intro _) | (apply WD.cl0; exact rfl; exact rfl; exact rfl; exact rfl) | (apply WD.cl1; exact rfl; exact rfl; exact rfl; exact rfl) | (apply W.condT; exact rfl) | (apply W.condF; exact rfl) | (apply W.cond; exact rfl; all_goals intro _) | (apply WO.lss; exact rfl; exact rfl; all_goals first | (intro _; exfalso; omega) | intro _) | (apply WO.neq; exact rfl; exact rfl; all_goals first | (intro _; exfalso; omega) | intro _) | (apply WO.add; exact rfl; exact rfl; omega) | (apply WO.cll; exact rfl; exact rfl; first | exact C.c36 _ _ | exact C.c114 _ _ _ | exact C.c97 _ _ _ | exact C.c96 _ _ _) | (apply WD.cl0; exact rfl; exact rfl; exact rfl; first | exact C.c36 _ _ | exact C.c114 _ _ _ | exact C.c97 _ _ _ | exact C.c96 _ _ _) | (apply WO.iav; exact rfl; exact rfl; omega) | (apply WO.ias; exact rfl; exact rfl; omega) | (apply WO.lda; exact rfl; exact fun _ => rfl; (first | omega | (simp only [List.length_set]; omega) | (simp; omega)); decide; exact rfl; case ia => infer_instance) | (apply WO.lsa; exact rfl; (first | exact rfl | assumption | exact at_new | (apply at_old; assumption) | (apply at_put; first | assumption | (simp only [put_length]; assumption))); exact fun _ => rfl; (first | omega | (simp only [List.length_set]; omega) | (simp; omega)); decide; exact rfl; case ia => infer_instance) | (apply WO.sta; exact rfl; exact rfl; (first | exact rfl | assumption | exact at_new | (apply at_old; assumption) | (apply at_put; first | assumption | (simp only [put_length]; assumption))); exact fun _ => rfl; (first | omega | (simp only [List.length_set]; omega) | (simp; omega)); exact ⟨rfl, by decide, rfl⟩; exact rfl; case ia => infer_instance) | (apply WO.ldf; exact rfl; exact fun _ => rfl; (first | omega | (simp only [List.length_set]; omega) | (simp; omega)); decide; exact rfl; case ia => infer_instance) | (apply WO.lsf; exact rfl; (first | exact rfl | assumption | exact at_new | (apply at_old; assumption) | (apply at_put; first | assumption | (simp only [put_length]; assumption))); exact fun _ => rfl; (first | omega | (simp only [List.length_set]; omega) | (simp; omega)); decide; exact rfl; case ia => infer_instance) | (apply WO.stf; exact rfl; exact rfl; (first | exact rfl | assumption | exact at_new | (apply at_old; assumption) | (apply at_put; first | assumption | (simp only [put_length]; assumption))); exact fun _ => rfl; (first | omega | (simp only [List.length_set]; omega) | (simp; omega)); exact ⟨rfl, by decide, rfl⟩; exact rfl; case ia => infer_instance) | (apply WO.sneq; exact rfl; exact rfl; all_goals first | (intro h; exact absurd h (by decide)) | (intro h; exact absurd rfl h) | (intro h; contradiction) | intro _) | (apply WO.clb; exact rfl; exact rfl; exact rfl; all_goals first | (intro h; exact absurd h (by decide)) | intro _) | (apply WO.cll; exact rfl; exact rfl; exact rfl) | (apply WO.hlv; exact rfl; exact rfl; exact rfl) | (apply WO.hpv; exact rfl; exact rfl; exact rfl) | (apply WO.hnv; exact rfl; exact rfl; exact rfl) | (apply WO.pl; exact rfl; exact rfl) | (apply WO.pp; exact rfl; exact rfl)
    · rename_i he
      rw [if_pos he] at hd
      rw [hd] at h2
      exact h2 he _ _ _ _ _ _
    · rename_i he hk
      have hk' : ¬ l[i]!.1 = sNone := by rw [f1] at hk; exact hk
      rw [if_neg (fun h => h he), if_neg hk'] at hd
      rw [hd] at h1 h2
      exact LQn (ih (i + 1) l[i]! _ _ _ _ _ (by omega) (by rw [f1]; exact at_put (by simp [put_length])) h1 h2)
    · rename_i he hk
      have hk' : l[i]!.1 = sNone := by rw [f1] at hk; exact hk
      rw [if_neg (fun h => h he), if_pos hk'] at hd
      rw [hd] at h1 h2
      exact LQn (ih (i + 1) v _ _ _ _ _ (by omega) (at_old A2) h1 h2)
end Go.Ab.Ch1


/-
  Own work: mark.Ranks: the ranks of sorted marks.
-/
namespace Go.Ab.Ch1
variable {M : Mach} {cap : Option Nat}

/-- The rank of a mark among others. -/
def rankM (l : List Mk) (m : Mk) : Int := if m.1 = sNone then 0 else ((l.countP fun x => decide (cmpM x m < 0)) : Int) + 1
theorem countP_split {α : Type} [Inhabited α] {S : List α} {P : α → Bool} {p : Nat} (h1 : ∀ k, k < p → P S[k]! = true) (h2 : ∀ k, p ≤ k → k < S.length → ¬ P S[k]! = true) (hp : p ≤ S.length) : S.countP P = p := by
  have e : S = S.take p ++ S.drop p := (List.take_append_drop p S).symm
  have e1 : (S.take p).countP P = p := by
    have : (S.take p).countP P = (S.take p).length := by
      rw [List.countP_eq_length]
      intro a ha
      obtain ⟨k, hk, rfl⟩ := List.mem_iff_getElem.1 ha
      have hk' : k < p := by simp at hk; omega
      have := h1 k hk'
      rw [getElem!_pos S k (by omega)] at this
      simpa using this
    rw [this]; simp; omega
  have e2 : (S.drop p).countP P = 0 := by
    rw [List.countP_eq_zero]
    intro a ha
    obtain ⟨k, hk, rfl⟩ := List.mem_iff_getElem.1 ha
    have hk' : p + k < S.length := by simp at hk; omega
    have := h2 (p + k) (by omega) hk'
    rw [getElem!_pos S _ hk'] at this
    simpa using this
  rw [e, List.countP_append, e1, e2]
  rfl
theorem fill_set {l : List Mk} {f : Mk → Int} {i : Nat} (h : i < l.length) : ((l.take i).map f ++ List.replicate (l.length - i) 0).set i (f l[i]!) = (l.take (i + 1)).map f ++ List.replicate (l.length - (i + 1)) 0 := by
  rw [List.set_append_right _ _ (by simp; omega)]
  rw [show i - ((l.take i).map f).length = 0 by simp; omega, show l.length - i = (l.length - (i + 1)) + 1 by omega, List.replicate_succ, List.set_cons_zero]
  rw [List.take_succ_eq_append_getElem h, getElem!_pos l i h, List.map_append, List.append_assoc]
  rfl
theorem fill_same {l : List Mk} {f : Mk → Int} {i : Nat} (h : i < l.length) (h0 : f l[i]! = 0) : (l.take i).map f ++ List.replicate (l.length - i) 0 = (l.take (i + 1)).map f ++ List.replicate (l.length - (i + 1)) 0 := by
  rw [getElem!_pos l i h] at h0
  rw [List.take_succ_eq_append_getElem h, List.map_append, List.append_assoc, show l.length - i = (l.length - (i + 1)) + 1 by omega, List.replicate_succ, List.map_cons, h0]
  rfl

set_option maxHeartbeats 2000000 in
theorem loop49_1 (C : CRk M) (l S : List Mk) (hn : l.length < 1000000) (hS : S.length = l.length) (hP : S.Perm l) (hsort : ∀ i j, i < j → j < S.length → ¬ cmpM S[j]! S[i]! < 0) (k1 k2 : Nat) (hk : k1 ≠ k2) (a3 a4 a5 a11 a12 a13 : AV) {Q : Ex → StW → Prop} : ∀ (r i : Nat) (hp : Heap) (a8 a9 a10 : AV) (lo : List (Nat × AV)) (wr : List Nat), i + r = l.length →
    hp.at k1 = some (.cells (ints ((l.take i).map (rankM l) ++ List.replicate (l.length - i) 0)) 3) → hp.at k2 = some (.cells (arr cm S) 49) →
    (∀ a8 a9 a10 hp lo wr, hp.at k1 = some (.cells (ints (l.map (rankM l))) 3) → Q (.exit 2) ⟨⟨[.vs (arr cm l) l.length cap, .nilsl, .int .i64 0, a3, a4, a5, .sl k1 0 l.length 1 (some l.length), .sl k2 0 l.length 3 none, a8, a9, a10, a11, a12, a13, .vs (arr cm l) l.length cap, .int .i64 l.length, .int .i64 l.length], lo, hp, []⟩, wr⟩) →
    W M (.loop b49_1) ⟨⟨[.vs (arr cm l) l.length cap, .nilsl, .int .i64 0, a3, a4, a5, .sl k1 0 l.length 1 (some l.length), .sl k2 0 l.length 3 none, a8, a9, a10, a11, a12, a13, .vs (arr cm l) l.length cap, .int .i64 l.length, .int .i64 i], lo, hp, []⟩, wr⟩ Q := by
  intro r
  induction r with
  | zero =>
    intro i hp a8 a9 a10 lo wr hi hv hw h1
    obtain rfl : i = l.length := by omega
    refine W.loop ?_
    unfold b49_1
    repeat' first | apply W.seq | apply SQn | apply W.region | apply WO.nil | apply W.block | apply W.ret | apply W.exit | apply W.skip | apply SQr | apply SQe | apply BQn | apply BQr | apply BQe | (apply BQo; exact rfl) | apply LQe | apply LQr | (apply W.condT; exact rfl) | (apply W.condF; exact rfl) | (apply W.cond; exact rfl; all_goals intro _) | (apply WO.lss; exact rfl; exact rfl; all_goals first | (intro _; exfalso; omega) | intro _) | (apply WO.neq; exact rfl; exact rfl; all_goals first | (intro _; exfalso; omega) | intro _) | (apply WO.add; exact rfl; exact rfl; omega) | (apply WO.iav; exact rfl; exact rfl; omega) | (apply WO.ias; exact rfl; exact rfl; omega) | (apply WO.lda; exact rfl; exact fun _ => rfl; (first | omega | (simp only [List.length_set]; omega) | (simp; omega)); decide; exact rfl; case ia => infer_instance) | (apply WO.lsa; exact rfl; (first | exact rfl | assumption | exact at_new | (apply at_old; assumption) | (apply at_put; first | assumption | (simp only [put_length]; assumption))); exact fun _ => rfl; (first | omega | (simp only [List.length_set]; omega) | (simp; omega)); decide; exact rfl; case ia => infer_instance) | (apply WO.sta; exact rfl; exact rfl; (first | exact rfl | assumption | exact at_new | (apply at_old; assumption) | (apply at_put; first | assumption | (simp only [put_length]; assumption))); exact fun _ => rfl; (first | omega | (simp only [List.length_set]; omega) | (simp; omega)); exact ⟨rfl, by decide, rfl⟩; exact rfl; case ia => infer_instance) | (apply WO.ldf; exact rfl; exact fun _ => rfl; (first | omega | (simp only [List.length_set]; omega) | (simp; omega)); decide; exact rfl; case ia => infer_instance) | (apply WO.lsf; exact rfl; (first | exact rfl | assumption | exact at_new | (apply at_old; assumption) | (apply at_put; first | assumption | (simp only [put_length]; assumption))); exact fun _ => rfl; (first | omega | (simp only [List.length_set]; omega) | (simp; omega)); decide; exact rfl; case ia => infer_instance) | (apply WO.stf; exact rfl; exact rfl; (first | exact rfl | assumption | exact at_new | (apply at_old; assumption) | (apply at_put; first | assumption | (simp only [put_length]; assumption))); exact fun _ => rfl; (first | omega | (simp only [List.length_set]; omega) | (simp; omega)); exact ⟨rfl, by decide, rfl⟩; exact rfl; case ia => infer_instance) | (apply WO.sneq; exact rfl; exact rfl; all_goals first | (intro h; exact absurd h (by decide)) | (intro h; exact absurd rfl h) | (intro h; contradiction) | intro _) | (apply WO.clb; exact rfl; exact rfl; exact rfl; all_goals first | (intro h; exact absurd h (by decide)) | intro _) | (apply WO.cll; exact rfl; exact rfl; exact rfl) | (apply WO.hlv; exact rfl; exact rfl; exact rfl) | (apply WO.hpv; exact rfl; exact rfl; exact rfl) | (apply WO.hnv; exact rfl; exact rfl; exact rfl) | (apply WO.pl; exact rfl; exact rfl) | (apply WO.pp; exact rfl; exact rfl)
    exact h1 _ _ _ _ _ _ (by simpa using hv)
  | succ r ih =>
    intro i hp a8 a9 a10 lo wr hi hv hw h1
    have lt1 := at_lt hv
    have lt2 := at_lt hw
    have f1 : ((i : Int)).toNat = i := by omega
    have hil : ((i : Int)).toNat < l.length := by omega
    have hio : ((i : Int)).toNat < ((l.take i).map (rankM l) ++ List.replicate (l.length - i) (0 : Int)).length := by simp; omega
    have hm1 : hp.length < (hp ++ [some (Blk.cells [.str [], .int .i64 (0), .str []] 49)]).length := by simp
    obtain ⟨m, hm⟩ : ∃ m, m = l[((i : Int)).toNat]! := ⟨_, rfl⟩
    have A1 : Heap.at ((hp ++ [some (Blk.cells [.str [], .int .i64 (0), .str []] 49)]).put hp.length (some (Blk.cells (cm l[((i : Int)).toNat]!) 49))) hp.length = some (.cells (cm l[((i : Int)).toNat]!) 49) := at_put hm1
    have B1 : Heap.at ((hp ++ [some (Blk.cells [.str [], .int .i64 (0), .str []] 49)]).put hp.length (some (Blk.cells (cm l[((i : Int)).toNat]!) 49))) k1 = some (.cells (ints ((l.take i).map (rankM l) ++ List.replicate (l.length - i) 0)) 3) := at_else (by omega) (at_old hv)
    have B2 : Heap.at ((hp ++ [some (Blk.cells [.str [], .int .i64 (0), .str []] 49)]).put hp.length (some (Blk.cells (cm l[((i : Int)).toNat]!) 49))) k2 = some (.cells (arr cm S) 49) := at_else (by omega) (at_old hw)
    obtain ⟨p, f, g1, g2, g3, hcc⟩ := r132 (cap := none) C.pq.ft C.n132 C.c115 S l[((i : Int)).toNat]! (by omega) _ B2 (fun k k' h1 h2 h3 => by
      have h4 := hsort k k' h1 h2
      rw [cmpM_lt] at h3 h4 ⊢
      omega)
    have hcount : (l.countP fun x => decide (cmpM x l[((i : Int)).toNat]! < 0)) = p := by
      rw [← hP.countP_eq]
      exact countP_split (fun k hk => decide_eq_true (g1 k hk)) (fun k hk1 hk2 h => g2 k hk1 hk2 (of_decide_eq_true h)) g3
    rw [hS] at hcc
    refine W.loop ?_
    unfold b49_1
    repeat' first | (apply WO.ldb; exact rfl; exact A1; exact rfl) | (apply WO.stw; exact rfl; exact rfl; exact at_new; exact ⟨rfl, rfl, rfl⟩) | apply W.seq | apply SQn | apply W.region | apply WO.nil | apply W.block | apply W.ret | apply W.exit | apply W.skip | apply SQr | apply SQe | apply BQn | apply BQr | apply BQe | (apply BQo; exact rfl) | apply LQe | apply LQr | (apply W.condT; exact rfl) | (apply W.condF; exact rfl) | (apply W.cond; exact rfl; all_goals intro _) | (apply WO.lss; exact rfl; exact rfl; all_goals first | (intro _; exfalso; omega) | intro _) | (apply WO.neq; exact rfl; exact rfl; all_goals first | (intro _; exfalso; omega) | intro _) | (apply WO.add; exact rfl; exact rfl; omega) | (apply WO.ct; exact rfl; exact rfl; first | exact hcc) | (apply WO.ctn; exact rfl; exact rfl; first | exact hcc) | (apply WD.ct; exact rfl; exact rfl; exact rfl; first | exact hcc) | (apply WO.iav; exact rfl; exact rfl; omega) | (apply WO.ias; exact rfl; exact rfl; omega) | (apply WO.lda; exact rfl; exact fun _ => rfl; (first | omega | (simp only [List.length_set]; omega) | (simp; omega)); decide; exact rfl; case ia => infer_instance) | (apply WO.lsa; exact rfl; (first | exact rfl | assumption | exact at_new | (apply at_old; assumption) | (apply at_put; first | assumption | (simp only [put_length]; assumption))); exact fun _ => rfl; (first | omega | (simp only [List.length_set]; omega) | (simp; omega)); decide; exact rfl; case ia => infer_instance) | (apply WO.sta; exact rfl; exact rfl; (first | exact rfl | assumption | exact at_new | (apply at_old; assumption) | (apply at_put; first | assumption | (simp only [put_length]; assumption))); exact fun _ => rfl; (first | omega | (simp only [List.length_set]; omega) | (simp; omega)); exact ⟨rfl, by decide, rfl⟩; exact rfl; case ia => infer_instance) | (apply WO.ldf; exact rfl; exact fun _ => rfl; (first | omega | (simp only [List.length_set]; omega) | (simp; omega)); decide; exact rfl; case ia => infer_instance) | (apply WO.lsf; exact rfl; (first | exact rfl | assumption | exact at_new | (apply at_old; assumption) | (apply at_put; first | assumption | (simp only [put_length]; assumption))); exact fun _ => rfl; (first | omega | (simp only [List.length_set]; omega) | (simp; omega)); decide; exact rfl; case ia => infer_instance) | (apply WO.stf; exact rfl; exact rfl; (first | exact rfl | assumption | exact at_new | (apply at_old; assumption) | (apply at_put; first | assumption | (simp only [put_length]; assumption))); exact fun _ => rfl; (first | omega | (simp only [List.length_set]; omega) | (simp; omega)); exact ⟨rfl, by decide, rfl⟩; exact rfl; case ia => infer_instance) | (apply WO.sneq; exact rfl; exact rfl; all_goals first | (intro h; exact absurd h (by decide)) | (intro h; exact absurd rfl h) | (intro h; contradiction) | intro _) | (apply WO.clb; exact rfl; exact rfl; exact rfl; all_goals first | (intro h; exact absurd h (by decide)) | intro _) | (apply WO.cll; exact rfl; exact rfl; exact rfl) | (apply WO.hlv; exact rfl; exact rfl; exact rfl) | (apply WO.hpv; exact rfl; exact rfl; exact rfl) | (apply WO.hnv; exact rfl; exact rfl; exact rfl) | (apply WO.pl; exact rfl; exact rfl) | (apply WO.pp; exact rfl; exact rfl)
    · rename_i hk'
      refine LQn (ih (i + 1) _ _ _ _ _ _ (by omega) ?_ ?_ h1)
      · have e : rankM l l[((i : Int)).toNat]! = (p : Int) + 1 := by rw [rankM, if_neg hk', hcount]
        have e2 : ((l.take i).map (rankM l) ++ List.replicate (l.length - i) 0).set ((i : Int)).toNat ((p : Int) + 1) = (l.take (i + 1)).map (rankM l) ++ List.replicate (l.length - (i + 1)) 0 := by
          rw [← e, f1]; exact fill_set (by omega)
        rw [← e2]
        exact at_put (by simp [put_length]; omega)
      · exact at_else (Ne.symm hk) B2
    · rename_i hk'
      refine LQn (ih (i + 1) _ _ _ _ _ _ (by omega) ?_ B2 h1)
      have e : rankM l l[((i : Int)).toNat]! = 0 := by rw [rankM, if_pos hk']
      rw [f1] at e
      rw [← fill_same (by omega) e]
      exact B1
end Go.Ab.Ch1

