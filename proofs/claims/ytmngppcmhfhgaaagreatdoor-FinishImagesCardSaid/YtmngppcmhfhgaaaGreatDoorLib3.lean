/-
  Own work: the resolved code of some functions of chapter 5: starts.
-/
import Derived.Test.YtmngppcmhfhgaaaGreatDoorCh5Base
import Derived.Test.YtmngppcmhfhgaaaGreatDoorLib2
import Derived.Test.YtmngppcmhfhgaaaGreatDoorCh5Row
import Derived.Laws.RangeString
import Derived.Lib.DecodeN
import Derived.Test.YtmngppcmhfhgaaaGreatDoorLib1
namespace Go.Ab.Ch5

/-- stadion/stadionlaw05.when -/
def b20 : ICode :=
 .seq (.region [⟨(.p 2), .mv (.c (.int .i64 (0))), none⟩])
  (.seq (.seq (.region [⟨(.l 5), .mv (.p 0), none⟩])
    (.cond (.l 5)
     (.seq (.region [⟨(.l 6), .mv (.p 1), none⟩,
        ⟨(.p 2), .mv (.l 6), none⟩])
      (.ret))
     (.skip)))
   (.seq (.region [⟨(.p 2), .mv (.c (.int .i64 (0))), none⟩])
    (.ret)))
theorem ft20 : FT 20 = some ⟨7, [0, 1, 4], [.var (.p 2)], b20⟩ := by kernel_rfl

/-- stadion/stadionlaw05.integer -/
def b42 : ICode :=
 .seq (.region [⟨(.p 4), .mv (.c (.bool false)), none⟩])
  (.seq (.seq (.region [⟨(.l 9), .mv (.p 2), none⟩,
      ⟨(.l 10), .bin .neq (.l 9) (.c (.int .i64 (0))), none⟩])
    (.cond (.l 10)
     (.seq (.region [⟨(.l 11), .mv (.p 0), none⟩,
        ⟨(.l 12), .bin .eql (.l 11) (.c (.int .i64 (0))), none⟩,
        ⟨(.l 13), .mv (.l 12), none⟩,
        ⟨(.l 14), .mv (.p 1), some ((.l 13), true)⟩,
        ⟨(.l 15), .mv (.p 2), some ((.l 13), true)⟩,
        ⟨(.l 16), .bin .eql (.l 14) (.l 15), some ((.l 13), true)⟩,
        ⟨(.l 17), .pick (.l 13) (.l 16) (.c (.bool false)), none⟩,
        ⟨(.p 4), .mv (.l 17), none⟩])
      (.ret))
     (.skip)))
   (.seq (.region [⟨(.l 18), .mv (.p 1), none⟩,
      ⟨(.l 19), .bin .eql (.l 18) (.c (.int .i64 (0))), none⟩,
      ⟨(.l 20), .mv (.l 19), none⟩,
      ⟨(.l 21), .mv (.p 0), some ((.l 20), true)⟩,
      ⟨(.l 22), .mv (.p 3), some ((.l 20), true)⟩,
      ⟨(.l 23), .bin .eql (.l 21) (.l 22), some ((.l 20), true)⟩,
      ⟨(.l 24), .pick (.l 20) (.l 23) (.c (.bool false)), none⟩,
      ⟨(.p 4), .mv (.l 24), none⟩])
    (.ret)))
theorem ft42 : FT 42 = some ⟨25, [0, 1, 2, 3, 8], [.var (.p 4)], b42⟩ := by kernel_rfl

/-- stadion/stadionref05.outside -/
def b87 : ICode :=
 .seq (.region [⟨(.p 3), .mv (.c (.bool false)), none⟩])
  (.seq (.region [⟨(.l 7), .mv (.p 0), none⟩,
     ⟨(.l 8), .mv (.p 1), none⟩,
     ⟨(.l 9), .bin .lss (.l 7) (.l 8), none⟩,
     ⟨(.l 10), .mv (.l 9), none⟩,
     ⟨(.l 11), .mv (.p 0), some ((.l 10), false)⟩,
     ⟨(.l 12), .mv (.p 2), some ((.l 10), false)⟩,
     ⟨(.l 13), .bin .gtr (.l 11) (.l 12), some ((.l 10), false)⟩,
     ⟨(.l 14), .pick (.l 10) (.c (.bool true)) (.l 13), none⟩,
     ⟨(.p 3), .mv (.l 14), none⟩])
   (.ret))
theorem ft87 : FT 87 = some ⟨15, [0, 1, 2, 6], [.var (.p 3)], b87⟩ := by kernel_rfl

def b90_0 : ICode :=
 .seq (.region [⟨(.l 8), .bin .lss (.p 5) (.p 4), none⟩])
  (.seq (.cond (.l 8)
    (.skip)
    (.exit 0))
   (.seq (.block 1
     (.seq (.region [⟨(.l 9), .iaddr none 1 (.p 3) (.p 5), none⟩,
        ⟨(.l 10), .load 1 false (.l 9), none⟩,
        ⟨(.p 2), .mv (.l 10), none⟩])
      (.seq (.region [⟨(.l 11), .mv (.p 2), none⟩,
         ⟨(.l 12), .bin .neq (.l 11) (.c (.int .i64 (0))), none⟩])
       (.cond (.l 12)
        (.seq (.region [⟨(.l 13), .mv (.p 2), none⟩,
           ⟨(.p 1), .mv (.l 13), none⟩])
         (.ret))
        (.skip)))))
    (.region [⟨(.l 14), .bin .add (.p 5) (.c (.int .i64 (1))), none⟩,
      ⟨(.p 5), .mv (.l 14), none⟩])))
/-- stadion/finish.first -/
def b90 : ICode :=
 .seq (.region [⟨(.p 1), .mv (.c (.int .i64 (0))), none⟩])
  (.seq (.seq (.region [⟨(.p 3), .mv (.p 0), none⟩,
      ⟨(.p 4), .len .sl (.p 3), none⟩,
      ⟨(.p 5), .mv (.c (.int .i64 (0))), none⟩])
    (.block 0
     (.loop b90_0)))
   (.seq (.region [⟨(.p 1), .mv (.c (.int .i64 (0))), none⟩])
    (.ret)))
theorem ft90 : FT 90 = some ⟨15, [0, 2, 4, 5, 6, 7], [.var (.p 1)], b90⟩ := by kernel_rfl

/-- stadion/finish.when -/
def b91 : ICode :=
 .seq (.region [⟨(.p 2), .mv (.c (.int .i64 (0))), none⟩])
  (.seq (.seq (.region [⟨(.l 5), .mv (.p 0), none⟩])
    (.cond (.l 5)
     (.seq (.region [⟨(.l 6), .mv (.p 1), none⟩,
        ⟨(.p 2), .mv (.l 6), none⟩])
      (.ret))
     (.skip)))
   (.seq (.region [⟨(.p 2), .mv (.c (.int .i64 (0))), none⟩])
    (.ret)))
theorem ft91 : FT 91 = some ⟨7, [0, 1, 4], [.var (.p 2)], b91⟩ := by kernel_rfl

/-- stadion/finish.within -/
def b121 : ICode :=
 .seq (.region [⟨(.p 3), .mv (.c (.int .i64 (0))), none⟩])
  (.seq (.region [⟨(.l 7), .mv (.p 0), none⟩,
     ⟨(.l 8), .mv (.p 1), none⟩,
     ⟨(.l 9), .bin .lss (.l 7) (.l 8), none⟩,
     ⟨(.l 10), .mv (.l 9), none⟩,
     ⟨(.l 11), .mv (.p 0), some ((.l 10), false)⟩,
     ⟨(.l 12), .mv (.p 2), some ((.l 10), false)⟩,
     ⟨(.l 13), .bin .gtr (.l 11) (.l 12), some ((.l 10), false)⟩,
     ⟨(.l 14), .pick (.l 10) (.c (.bool true)) (.l 13), none⟩,
     ⟨(.l 15), .call (.c (.fn (.func 91) [] [])) [(.l 14), (.c (.int .i64 (3)))], none⟩,
     ⟨(.p 3), .mv (.l 15), none⟩])
   (.ret))
theorem ft121 : FT 121 = some ⟨16, [0, 1, 2, 6], [.var (.p 3)], b121⟩ := by kernel_rfl

end Go.Ab.Ch5


/-
  Own work: what FinishStarts calls, one function after another.
-/
namespace Go.Ab.Ch5
variable {M : Mach} {cap : Option Nat}
abbrev fnV (k : Nat) : AV := .fn (.func k) [] []

def outI (x lo hi : Int) : Bool := decide (x < lo) || decide (hi < x)
theorem w87 (hft : M.FT = FT) (x lo hi : Int) : Run M 87 [.int .i64 x, .int .i64 lo, .int .i64 hi] [] ⟨.bool (outI x lo hi), [], []⟩ := by
  refine run_of_W (by rw [hft]; exact ft87) (by simp) ?_
  unfold b87
  simp only [List.map_cons, List.map_nil, List.getElem?_cons_zero, List.getElem?_cons_succ, List.getElem?_nil, Option.getD_some, Option.getD_none]
  repeat' first | apply W.seq | apply SQn | apply W.region | apply WO.nil | apply W.block | apply W.ret | apply W.exit | apply W.skip | apply SQr | apply SQe | apply BQn | apply BQr | apply BQe | (apply BQo; exact rfl) | apply LQe | apply LQr | (apply W.condT; exact rfl) | (apply W.condF; exact rfl) | (apply W.cond; exact rfl; all_goals intro _) | (apply WO.gT; exact rfl) | (apply WO.gF; exact rfl) | (apply WO.sT; exact rfl) | (apply WO.sF; exact rfl) | (apply WO.sU; exact rfl) | (apply WO.lss; exact rfl; exact rfl; all_goals first | (intro _; exfalso; omega) | intro _) | (apply WO.gtr; exact rfl; exact rfl; all_goals first | (intro _; exfalso; omega) | intro _) | (apply WO.pkT; exact rfl; exact rfl) | (apply WO.pkF; exact rfl; exact rfl) | (apply WO.pl; exact rfl; exact rfl) | (apply WO.pp; exact rfl; exact rfl)
  all_goals exact ⟨.inr rfl, rfl, _, rfl, congrArg AV.bool (by simp_all [outI]), rfl⟩
theorem w91 (hft : M.FT = FT) (t : Bool) (e : Int) : Run M 91 [.bool t, .int .i64 e] [] ⟨.int .i64 (if t then e else 0), [], []⟩ := by
  refine run_of_W (by rw [hft]; exact ft91) (by simp) ?_
  unfold b91
  simp only [List.map_cons, List.map_nil, List.getElem?_cons_zero, List.getElem?_cons_succ, List.getElem?_nil, Option.getD_some, Option.getD_none]
  cases t
  all_goals
    repeat' first | apply W.seq | apply SQn | apply W.region | apply WO.nil | apply W.block | apply W.ret | apply W.exit | apply W.skip | apply SQr | apply SQe | apply BQn | apply BQr | apply BQe | (apply BQo; exact rfl) | apply LQe | apply LQr | (apply W.condT; exact rfl) | (apply W.condF; exact rfl) | (apply W.cond; exact rfl; all_goals intro _) | (apply WO.pl; exact rfl; exact rfl) | (apply WO.pp; exact rfl; exact rfl)
  all_goals exact ⟨.inr rfl, rfl, _, rfl, rfl, rfl⟩
theorem w20 (hft : M.FT = FT) (t : Bool) (e : Int) : Run M 20 [.bool t, .int .i64 e] [] ⟨.int .i64 (if t then e else 0), [], []⟩ := by
  refine run_of_W (by rw [hft]; exact ft20) (by simp) ?_
  unfold b20
  simp only [List.map_cons, List.map_nil, List.getElem?_cons_zero, List.getElem?_cons_succ, List.getElem?_nil, Option.getD_some, Option.getD_none]
  cases t
  all_goals
    repeat' first | apply W.seq | apply SQn | apply W.region | apply WO.nil | apply W.block | apply W.ret | apply W.exit | apply W.skip | apply SQr | apply SQe | apply BQn | apply BQr | apply BQe | (apply BQo; exact rfl) | apply LQe | apply LQr | (apply W.condT; exact rfl) | (apply W.condF; exact rfl) | (apply W.cond; exact rfl; all_goals intro _) | (apply WO.pl; exact rfl; exact rfl) | (apply WO.pp; exact rfl; exact rfl)
  all_goals exact ⟨.inr rfl, rfl, _, rfl, rfl, rfl⟩
theorem w121 (hft : M.FT = FT) (h91 : ∀ t e h, M.ext 91 [.bool t, .int .i64 e] h = some ⟨.int .i64 (if t then e else 0), h, []⟩) (x lo hi : Int) : Run M 121 [.int .i64 x, .int .i64 lo, .int .i64 hi] [] ⟨.int .i64 (if outI x lo hi then 3 else 0), [], []⟩ := by
  have q1 := h91 true 3
  have q2 := h91 false 3
  refine run_of_W (by rw [hft]; exact ft121) (by simp) ?_
  unfold b121
  simp only [List.map_cons, List.map_nil, List.getElem?_cons_zero, List.getElem?_cons_succ, List.getElem?_nil, Option.getD_some, Option.getD_none]
  repeat' first | apply W.seq | apply SQn | apply W.region | apply WO.nil | apply W.block | apply W.ret | apply W.exit | apply W.skip | apply SQr | apply SQe | apply BQn | apply BQr | apply BQe | (apply BQo; exact rfl) | apply LQe | apply LQr | (apply W.condT; exact rfl) | (apply W.condF; exact rfl) | (apply W.cond; exact rfl; all_goals intro _) | (apply WO.gT; exact rfl) | (apply WO.gF; exact rfl) | (apply WO.sT; exact rfl) | (apply WO.sF; exact rfl) | (apply WO.sU; exact rfl) | (apply WO.lss; exact rfl; exact rfl; all_goals first | (intro _; exfalso; omega) | intro _) | (apply WO.gtr; exact rfl; exact rfl; all_goals first | (intro _; exfalso; omega) | intro _) | (apply WO.pkT; exact rfl; exact rfl) | (apply WO.pkF; exact rfl; exact rfl) | (apply WO.cll; exact rfl; exact rfl; first | exact q1 _ | exact q2 _) | (apply WO.clb; exact rfl; exact rfl; exact rfl; all_goals first | (intro h; exact absurd h (by decide)) | intro _) | (apply WO.cll; exact rfl; exact rfl; exact rfl) | (apply WO.pl; exact rfl; exact rfl) | (apply WO.pp; exact rfl; exact rfl)
  all_goals exact ⟨.inr rfl, rfl, _, rfl, congrArg (AV.int .i64) (by simp_all [outI]), rfl⟩

def firstNZ : List Int → Int
  | [] => 0
  | e :: r => if e = 0 then firstNZ r else e
theorem firstNZ_drop {l : List Int} {i : Nat} (h : i < l.length) : firstNZ (l.drop i) = if l[i]! = 0 then firstNZ (l.drop (i + 1)) else l[i]! := by
  rw [List.drop_eq_getElem_cons h, getElem!_pos l i h, firstNZ]
theorem loop90 (l : List Int) (hl : l.length < 4611686018427387904) {Q : Ex → StW → Prop} : ∀ (r i : Nat) (a2 : AV) (lo : List (Nat × AV)) (wr : List Nat), i + r = l.length →
    (firstNZ (l.drop i) = 0 → ∀ a2 lo wr, Q (.exit 0) ⟨⟨[.vs (ints l) l.length cap, .int .i64 0, a2, .vs (ints l) l.length cap, .int .i64 l.length, .int .i64 l.length], lo, [], []⟩, wr⟩) →
    (∀ a2 a5 lo wr, Q .ret ⟨⟨[.vs (ints l) l.length cap, .int .i64 (firstNZ (l.drop i)), a2, .vs (ints l) l.length cap, .int .i64 l.length, a5], lo, [], []⟩, wr⟩) →
    W M (.loop b90_0) ⟨⟨[.vs (ints l) l.length cap, .int .i64 0, a2, .vs (ints l) l.length cap, .int .i64 l.length, .int .i64 i], lo, [], []⟩, wr⟩ Q
  | 0, i, a2, lo, wr, hi, h1, h2 => by
    obtain rfl : i = l.length := by omega
    refine W.loop ?_
    unfold b90_0
    repeat' first | apply W.seq | apply SQn | apply W.region | apply WO.nil | apply W.block | apply W.ret | apply W.exit | apply W.skip | apply SQr | apply SQe | apply BQn | apply BQr | apply BQe | (apply BQo; exact rfl) | apply LQe | apply LQr | (apply W.condT; exact rfl) | (apply W.condF; exact rfl) | (apply W.cond; exact rfl; all_goals intro _) | (apply WO.lss; exact rfl; exact rfl; all_goals first | (intro _; exfalso; omega) | intro _) | (apply WO.neq; exact rfl; exact rfl; all_goals first | (intro _; exfalso; omega) | intro _) | (apply WO.add; exact rfl; exact rfl; omega) | (apply WO.iav; exact rfl; exact rfl; omega) | (apply WO.ias; exact rfl; exact rfl; omega) | (apply WO.lda; exact rfl; exact fun _ => rfl; (first | omega | (simp only [List.length_set]; omega) | (simp; omega)); decide; exact rfl; case ia => infer_instance) | (apply WO.lsa; exact rfl; (first | exact rfl | assumption | exact at_new | (apply at_old; assumption) | (apply at_put; first | assumption | (simp only [put_length]; assumption))); exact fun _ => rfl; (first | omega | (simp only [List.length_set]; omega) | (simp; omega)); decide; exact rfl; case ia => infer_instance) | (apply WO.sneq; exact rfl; exact rfl; all_goals first | (intro h; exact absurd h (by decide)) | (intro h; exact absurd rfl h) | (intro h; contradiction) | intro _) | (apply WO.hlv; exact rfl; exact rfl; exact rfl) | (apply WO.hpv; exact rfl; exact rfl; exact rfl) | (apply WO.hnv; exact rfl; exact rfl; exact rfl) | (apply WO.pl; exact rfl; exact rfl) | (apply WO.pp; exact rfl; exact rfl)
    exact h1 (by simp [firstNZ]) _ _ _
  | r + 1, i, a2, lo, wr, hi, h1, h2 => by
    have e := firstNZ_drop (l := l) (i := (i : Int).toNat) (by omega)
    rw [Int.toNat_natCast] at e
    refine W.loop ?_
    unfold b90_0
    repeat' first | apply W.seq | apply SQn | apply W.region | apply WO.nil | apply W.block | apply W.ret | apply W.exit | apply W.skip | apply SQr | apply SQe | apply BQn | apply BQr | apply BQe | (apply BQo; exact rfl) | apply LQe | apply LQr | (apply W.condT; exact rfl) | (apply W.condF; exact rfl) | (apply W.cond; exact rfl; all_goals intro _) | (apply WO.lss; exact rfl; exact rfl; all_goals first | (intro _; exfalso; omega) | intro _) | (apply WO.neq; exact rfl; exact rfl; all_goals first | (intro _; exfalso; omega) | intro _) | (apply WO.add; exact rfl; exact rfl; omega) | (apply WO.iav; exact rfl; exact rfl; omega) | (apply WO.ias; exact rfl; exact rfl; omega) | (apply WO.lda; exact rfl; exact fun _ => rfl; (first | omega | (simp only [List.length_set]; omega) | (simp; omega)); decide; exact rfl; case ia => infer_instance) | (apply WO.lsa; exact rfl; (first | exact rfl | assumption | exact at_new | (apply at_old; assumption) | (apply at_put; first | assumption | (simp only [put_length]; assumption))); exact fun _ => rfl; (first | omega | (simp only [List.length_set]; omega) | (simp; omega)); decide; exact rfl; case ia => infer_instance) | (apply WO.sneq; exact rfl; exact rfl; all_goals first | (intro h; exact absurd h (by decide)) | (intro h; exact absurd rfl h) | (intro h; contradiction) | intro _) | (apply WO.hlv; exact rfl; exact rfl; exact rfl) | (apply WO.hpv; exact rfl; exact rfl; exact rfl) | (apply WO.hnv; exact rfl; exact rfl; exact rfl) | (apply WO.pl; exact rfl; exact rfl) | (apply WO.pp; exact rfl; exact rfl)
    · rename_i he
      rw [Int.toNat_natCast] at he
      rw [if_neg he] at e
      rw [e] at h2
      exact h2 _ _ _ _
    · rename_i he
      rw [Int.toNat_natCast] at he
      rw [if_pos he] at e
      rw [e] at h1 h2
      exact LQn (loop90 l hl r (i + 1) _ _ _ (by omega) h1 h2)
theorem w90 (hft : M.FT = FT) (l : List Int) (hl : l.length < 4611686018427387904) : Run M 90 [.vs (ints l) l.length cap] [] ⟨.int .i64 (firstNZ l), [], []⟩ := by
  refine run_of_W (by rw [hft]; exact ft90) (by simp) ?_
  unfold b90
  simp only [List.map_cons, List.map_nil, List.getElem?_cons_zero, List.getElem?_cons_succ, List.getElem?_nil, Option.getD_some, Option.getD_none]
  repeat' first | apply W.seq | apply SQn | apply W.region | apply WO.nil | apply W.block | apply W.ret | apply W.exit | apply W.skip | apply SQr | apply SQe | apply BQn | apply BQr | apply BQe | (apply BQo; exact rfl) | apply LQe | apply LQr | (apply W.condT; exact rfl) | (apply W.condF; exact rfl) | (apply W.cond; exact rfl; all_goals intro _) | (apply WO.pl; exact rfl; exact rfl) | (apply WO.pp; exact rfl; exact rfl)
  refine loop90 l hl l.length 0 _ _ _ (by omega) (fun h a2 lo wr => ?_) (fun a2 a5 lo wr => ?_)
  · repeat' first | apply W.seq | apply SQn | apply W.region | apply WO.nil | apply W.block | apply W.ret | apply W.exit | apply W.skip | apply SQr | apply SQe | apply BQn | apply BQr | apply BQe | (apply BQo; exact rfl) | apply LQe | apply LQr | (apply W.condT; exact rfl) | (apply W.condF; exact rfl) | (apply W.cond; exact rfl; all_goals intro _) | (apply WO.pl; exact rfl; exact rfl) | (apply WO.pp; exact rfl; exact rfl)
    exact ⟨.inr rfl, rfl, _, rfl, by rw [List.drop_zero] at h; rw [h]; rfl, rfl⟩
  · repeat' first | apply W.seq | apply SQn | apply W.region | apply WO.nil | apply W.block | apply W.ret | apply W.exit | apply W.skip | apply SQr | apply SQe | apply BQn | apply BQr | apply BQe | (apply BQo; exact rfl) | apply LQe | apply LQr | (apply W.condT; exact rfl) | (apply W.condF; exact rfl) | (apply W.cond; exact rfl; all_goals intro _) | (apply WO.pl; exact rfl; exact rfl) | (apply WO.pp; exact rfl; exact rfl)
    exact ⟨.inr rfl, rfl, _, rfl, rfl, rfl⟩

end Go.Ab.Ch5


/-
  Own work: finish.Reaction and finish.FalseStarts, and the reference's.
-/
namespace Go.Ab.Ch5
variable {M : Mach} {cap : Option Nat}

theorem w42 (hft : M.FT = FT) (a e b w : Int) : Run M 42 [.int .i64 a, .int .i64 e, .int .i64 b, .int .i64 w] [] ⟨.bool (if b ≠ 0 then decide (a = 0 ∧ e = b) else decide (e = 0 ∧ a = w)), [], []⟩ := by
  refine run_of_W (by rw [hft]; exact ft42) (by simp) ?_
  unfold b42
  simp only [List.map_cons, List.map_nil, List.getElem?_cons_zero, List.getElem?_cons_succ, List.getElem?_nil, Option.getD_some, Option.getD_none]
  repeat' first | apply W.seq | apply SQn | apply W.region | apply WO.nil | apply W.block | apply W.ret | apply W.exit | apply W.skip | apply SQr | apply SQe | apply BQn | apply BQr | apply BQe | (apply BQo; exact rfl) | apply LQe | apply LQr | (apply W.condT; exact rfl) | (apply W.condF; exact rfl) | (apply W.cond; exact rfl; all_goals intro _) | (apply WO.gT; exact rfl) | (apply WO.gF; exact rfl) | (apply WO.sT; exact rfl) | (apply WO.sF; exact rfl) | (apply WO.sU; exact rfl) | (apply WO.eql; exact rfl; exact rfl; all_goals first | (intro _; exfalso; omega) | intro _) | (apply WO.neq; exact rfl; exact rfl; all_goals first | (intro _; exfalso; omega) | intro _) | (apply WO.pkT; exact rfl; exact rfl) | (apply WO.pkF; exact rfl; exact rfl) | (apply WO.seql; exact rfl; exact rfl; all_goals first | (intro h; exact absurd h (by decide)) | (intro h; exact absurd rfl h) | (intro h; contradiction) | intro _) | (apply WO.sneq; exact rfl; exact rfl; all_goals first | (intro h; exact absurd h (by decide)) | (intro h; exact absurd rfl h) | (intro h; contradiction) | intro _) | (apply WO.pl; exact rfl; exact rfl) | (apply WO.pp; exact rfl; exact rfl)
  all_goals exact ⟨.inr rfl, rfl, _, rfl, congrArg AV.bool (by simp_all), rfl⟩
end Go.Ab.Ch5


/-
  Own work: lists that are the same; the law FinishStarts.
-/
namespace Go.Ab.Ch5
variable {M : Mach}

end Go.Ab.Ch5


/-
  Own work: the contracts of FinishStarts as a table.
-/
namespace Go.Ab.Ch5
open Go.Proofs

theorem novL_ints (l : List Int) : novL (ints l) = true := novL_arr (fun _ => rfl) l

def specAwake : Spec := spec0 [] (.bool true)
theorem awake15 : SpecOK Tryz.prog gl 15 specAwake := spec0_ok gl_top rfl rfl o40
def specOut : Spec := fun
  | [.int .i64 x, .int .i64 lo, .int .i64 hi], h => some ⟨.bool (outI x lo hi), h, []⟩
  | _, _ => none
theorem out87 : SpecOK Tryz.prog gl 87 specOut := by
  intro xs h r hq
  unfold specOut at hq
  split at hq
  · cases hq
    exact ent_run0 seat tab_nil (w87 (M := mach Tryz.prog FT []) mach_ft _ _ _) (FrL.same rfl) rfl (.inl rfl)
  · cases hq
def specWhen : Spec := fun
  | [.bool t, .int .i64 e], h => some ⟨.int .i64 (if t then e else 0), h, []⟩
  | _, _ => none
theorem when91 : SpecOK Tryz.prog gl 91 specWhen := by
  intro xs h r hq
  unfold specWhen at hq
  split at hq
  · cases hq
    exact ent_run0 seat tab_nil (w91 (M := mach Tryz.prog FT []) mach_ft _ _) (FrL.same rfl) rfl (.inl rfl)
  · cases hq
theorem when20 : SpecOK Tryz.prog gl 20 specWhen := by
  intro xs h r hq
  unfold specWhen at hq
  split at hq
  · cases hq
    exact ent_run0 seat tab_nil (w20 (M := mach Tryz.prog FT []) mach_ft _ _) (FrL.same rfl) rfl (.inl rfl)
  · cases hq
def specRange : Spec := fun
  | [.int .i64 x, .int .i64 lo, .int .i64 hi], h => some ⟨.int .i64 (if outI x lo hi then 3 else 0), h, []⟩
  | _, _ => none
theorem range121 : SpecOK Tryz.prog gl 121 specRange := by
  intro xs h r hq
  unfold specRange at hq
  split at hq
  · cases hq
    exact ent_run0 seat (T := [(91, specWhen)]) (tab_cons when91 tab_nil) (w121 mach_ft (fun _ _ _ => by rw [mach_ext]; rfl) _ _ _) (FrL.same rfl) rfl (.inl rfl)
  · cases hq
def specFirst : Spec := fun
  | [v], h => match intsAt h v with
    | some l => if l.length < 4611686018427387904 then some ⟨.int .i64 (firstNZ l), h, []⟩ else none
    | none => none
  | _, _ => none
theorem first90 : SpecOK Tryz.prog gl 90 specFirst := by
  intro xs h r hq
  unfold specFirst at hq
  split at hq
  · split at hq
    · rename_i l hl
      split at hq
      · rename_i hn
        cases hq
        obtain ⟨S, cap, hf⟩ := (intsAt_sl hl).fr (fun _ => rfl)
        exact ent_run0 seat tab_nil (w90 (M := mach Tryz.prog FT []) mach_ft l hn) (.cons hf .nil) rfl (.inr rfl)
      · cases hq
    · cases hq
  · cases hq

def TO87 : List (Nat × Spec) := [(87, specOut)]
theorem TO87_ok : ExtOK Tryz.prog gl (extS TO87) := tab_cons out87 tab_nil
def specInteger : Spec := fun
  | [.int .i64 a, .int .i64 e, .int .i64 b, .int .i64 w], h => some ⟨.bool (if b ≠ 0 then decide (a = 0 ∧ e = b) else decide (e = 0 ∧ a = w)), h, []⟩
  | _, _ => none
theorem integer42 : SpecOK Tryz.prog gl 42 specInteger := by
  intro xs h r hq
  unfold specInteger at hq
  split at hq
  · cases hq
    exact ent_run0 seat tab_nil (w42 (M := mach Tryz.prog FT []) mach_ft _ _ _ _) (FrL.same rfl) rfl (.inl rfl)
  · cases hq
end Go.Ab.Ch5


/-
  Own work: the resolved code of some functions of chapter 5: images.
-/
namespace Go.Ab.Ch5

/-- stadion/stadionlaw05.FinishImages -/
def b13 : ICode :=
 .seq (.region [⟨(.p 3), .box 24 2 (.p 0), none⟩,
    ⟨(.p 4), .mv (.c (.bool false)), none⟩])
  (.seq (.region [⟨(.l 19), .load 2 true (.p 3), none⟩,
     ⟨(.p 5), .alloc 25 [.int .i64 (0), .nilsl], none⟩,
     ⟨.no, .store 2 (.p 5) (.l 19), none⟩])
   (.seq (.seq (.region [⟨(.l 20), .call (.c (.fn (.func 15) [] [])) [], none⟩,
       ⟨(.l 21), .un .not (.l 20), none⟩,
       ⟨(.l 22), .mv (.l 21), none⟩,
       ⟨(.l 23), .load 2 true (.p 5), some ((.l 22), false)⟩,
       ⟨(.l 24), .call (.c (.fn (.func 16) [] [])) [(.l 23)], some ((.l 22), false)⟩,
       ⟨(.l 25), .un .not (.l 24), some ((.l 22), false)⟩,
       ⟨(.l 26), .pick (.l 22) (.c (.bool true)) (.l 25), none⟩,
       ⟨(.l 27), .mv (.l 26), none⟩,
       ⟨(.l 28), .mv (.p 1), some ((.l 27), false)⟩,
       ⟨(.l 29), .len .str (.l 28), some ((.l 27), false)⟩,
       ⟨(.l 30), .bin .gtr (.l 29) (.c (.int .i64 (9))), some ((.l 27), false)⟩,
       ⟨(.l 31), .pick (.l 27) (.c (.bool true)) (.l 30), none⟩])
     (.cond (.l 31)
      (.seq (.region [⟨(.l 32), .call (.c (.fn (.func 15) [] [])) [], none⟩,
         ⟨(.p 4), .mv (.l 32), none⟩])
       (.ret))
      (.skip)))
    (.seq (.region [⟨(.l 33), .load 2 true (.p 5), none⟩,
       ⟨(.l 34), .call (.c (.fn (.func 18) [] [])) [(.l 33)], none⟩,
       ⟨(.p 6), .mv (.l 34), none⟩])
     (.seq (.seq (.region [⟨(.l 35), .load 2 true (.p 3), none⟩,
         ⟨(.l 36), .call (.c (.fn (.func 70) [] [])) [(.l 35)], none⟩,
         ⟨(.l 37), .mv (.p 6), none⟩,
         ⟨(.l 38), .bin .neq (.l 36) (.l 37), none⟩])
       (.cond (.l 38)
        (.seq (.region [⟨(.p 4), .mv (.c (.bool false)), none⟩])
         (.ret))
        (.skip)))
      (.seq (.region [⟨(.l 40), .load 2 true (.p 3), none⟩,
         ⟨(.l 41), .call (.c (.fn (.func 55) [] [])) [(.l 40)], none⟩,
         ⟨(.l 39), .mv (.l 41), none⟩,
         ⟨(.l 42), .extract 0 (.l 39), none⟩,
         ⟨(.l 43), .extract 1 (.l 39), none⟩,
         ⟨(.p 7), .mv (.l 42), none⟩,
         ⟨(.p 8), .mv (.l 43), none⟩])
       (.seq (.region [⟨(.l 45), .load 2 true (.p 3), none⟩,
          ⟨(.l 46), .mv (.p 1), none⟩,
          ⟨(.l 47), .call (.c (.fn (.func 56) [] [])) [(.l 45), (.l 46)], none⟩,
          ⟨(.l 44), .mv (.l 47), none⟩,
          ⟨(.l 48), .extract 0 (.l 44), none⟩,
          ⟨(.l 49), .extract 1 (.l 44), none⟩,
          ⟨(.p 9), .mv (.l 48), none⟩,
          ⟨(.p 10), .mv (.l 49), none⟩])
        (.seq (.region [⟨(.l 51), .load 2 true (.p 3), none⟩,
           ⟨(.l 52), .call (.c (.fn (.func 71) [] [])) [(.l 51)], none⟩,
           ⟨(.l 50), .mv (.l 52), none⟩,
           ⟨(.l 53), .extract 0 (.l 50), none⟩,
           ⟨(.l 54), .extract 1 (.l 50), none⟩,
           ⟨(.p 11), .alloc 24 [.int .i64 (0), .nilsl], none⟩,
           ⟨.no, .store 2 (.p 11) (.l 53), none⟩,
           ⟨(.p 12), .mv (.l 54), none⟩])
         (.seq (.region [⟨(.l 56), .load 2 true (.p 3), none⟩,
            ⟨(.l 57), .mv (.p 2), none⟩,
            ⟨(.l 58), .call (.c (.fn (.func 66) [] [])) [(.l 56), (.l 57)], none⟩,
            ⟨(.l 55), .mv (.l 58), none⟩,
            ⟨(.l 59), .extract 0 (.l 55), none⟩,
            ⟨(.l 60), .extract 1 (.l 55), none⟩,
            ⟨(.p 13), .alloc 24 [.int .i64 (0), .nilsl], none⟩,
            ⟨.no, .store 2 (.p 13) (.l 59), none⟩,
            ⟨(.p 14), .mv (.l 60), none⟩])
          (.seq (.seq (.region [⟨(.l 61), .mv (.p 6), none⟩,
              ⟨(.l 62), .bin .neq (.l 61) (.c (.int .i64 (0))), none⟩])
            (.cond (.l 62)
             (.seq (.region [⟨(.l 63), .mv (.p 7), none⟩,
                ⟨(.l 64), .mv (.p 8), none⟩,
                ⟨(.l 65), .mv (.p 6), none⟩,
                ⟨(.l 66), .call (.c (.fn (.func 72) [] [])) [(.l 63), (.l 64), (.l 65), (.c (.nilsl))], none⟩,
                ⟨(.l 67), .mv (.l 66), none⟩,
                ⟨(.l 68), .mv (.p 9), some ((.l 67), true)⟩,
                ⟨(.l 69), .mv (.p 10), some ((.l 67), true)⟩,
                ⟨(.l 70), .mv (.p 6), some ((.l 67), true)⟩,
                ⟨(.l 71), .call (.c (.fn (.func 42) [] [])) [(.l 68), (.l 69), (.l 70), (.c (.int .i64 (0)))], some ((.l 67), true)⟩,
                ⟨(.l 72), .pick (.l 67) (.l 71) (.c (.bool false)), none⟩,
                ⟨(.l 73), .mv (.l 72), none⟩,
                ⟨(.l 74), .load 2 true (.p 11), some ((.l 73), true)⟩,
                ⟨(.l 75), .mv (.p 12), some ((.l 73), true)⟩,
                ⟨(.l 76), .mv (.p 6), some ((.l 73), true)⟩,
                ⟨(.l 77), .load 2 true (.p 5), some ((.l 73), true)⟩,
                ⟨(.l 78), .call (.c (.fn (.func 23) [] [])) [(.l 74), (.l 75), (.l 76), (.l 77)], some ((.l 73), true)⟩,
                ⟨(.l 79), .pick (.l 73) (.l 78) (.c (.bool false)), none⟩,
                ⟨(.l 80), .mv (.l 79), none⟩,
                ⟨(.l 81), .load 2 true (.p 13), some ((.l 80), true)⟩,
                ⟨(.l 82), .mv (.p 14), some ((.l 80), true)⟩,
                ⟨(.l 83), .mv (.p 6), some ((.l 80), true)⟩,
                ⟨(.l 84), .load 2 true (.p 5), some ((.l 80), true)⟩,
                ⟨(.l 85), .call (.c (.fn (.func 23) [] [])) [(.l 81), (.l 82), (.l 83), (.l 84)], some ((.l 80), true)⟩,
                ⟨(.l 86), .pick (.l 80) (.l 85) (.c (.bool false)), none⟩,
                ⟨(.p 4), .mv (.l 86), none⟩])
              (.ret))
             (.skip)))
           (.seq (.seq (.draw [(⟨(.l 87), .mv (.p 7), none⟩, []),
               (⟨(.l 88), .mv (.p 8), none⟩, [0]),
               (⟨(.l 89), .load 2 true (.p 5), none⟩, [0, 1]),
               (⟨(.l 90), .call (.c (.fn (.func 73) [] [])) [(.l 89)], none⟩, [0, 1]),
               (⟨(.l 91), .call (.c (.fn (.func 72) [] [])) [(.l 87), (.l 88), (.c (.int .i64 (0))), (.l 90)], none⟩, []),
               (⟨(.l 92), .un .not (.l 91), none⟩, []),
               (⟨(.l 93), .mv (.l 92), none⟩, []),
               (⟨(.l 94), .load 2 true (.p 11), some ((.l 93), false)⟩, []),
               (⟨(.l 95), .mv (.p 12), some ((.l 93), false)⟩, [7]),
               (⟨(.l 96), .load 2 true (.p 5), some ((.l 93), false)⟩, [7, 8]),
               (⟨(.l 97), .call (.c (.fn (.func 74) [] [])) [(.l 96)], some ((.l 93), false)⟩, [7, 8]),
               (⟨(.l 98), .call (.c (.fn (.func 23) [] [])) [(.l 94), (.l 95), (.c (.int .i64 (0))), (.l 97)], some ((.l 93), false)⟩, []),
               (⟨(.l 99), .un .not (.l 98), some ((.l 93), false)⟩, []),
               (⟨(.l 100), .pick (.l 93) (.c (.bool true)) (.l 99), none⟩, [])])
             (.cond (.l 100)
              (.seq (.region [⟨(.p 4), .mv (.c (.bool false)), none⟩])
               (.ret))
              (.skip)))
            (.seq (.region [⟨(.l 101), .mv (.p 2), none⟩,
               ⟨(.l 102), .call (.c (.fn (.func 59) [] [])) [(.l 101), (.c (.int .i64 (1))), (.c (.int .i64 (4096)))], none⟩,
               ⟨(.p 15), .mv (.l 102), none⟩])
             (.seq (.seq (.region [⟨(.l 103), .mv (.p 15), none⟩,
                 ⟨(.l 104), .bin .eql (.l 103) (.c (.int .i64 (0))), none⟩])
               (.cond (.l 104)
                (.region [⟨(.l 105), .mv (.p 2), none⟩,
                  ⟨(.l 106), .faddr 1 (.p 3), none⟩,
                  ⟨(.l 107), .load 1 false (.l 106), none⟩,
                  ⟨(.l 108), .len .sl (.l 107), none⟩,
                  ⟨(.l 109), .bin .mul (.l 105) (.l 108), none⟩,
                  ⟨(.l 110), .bin .gtr (.l 109) (.c (.int .i64 (4096))), none⟩,
                  ⟨(.l 111), .call (.c (.fn (.func 20) [] [])) [(.l 110), (.c (.int .i64 (5)))], none⟩,
                  ⟨(.p 15), .mv (.l 111), none⟩])
                (.skip)))
              (.seq (.seq (.draw [(⟨(.l 112), .mv (.p 15), none⟩, []),
                  (⟨(.l 113), .bin .neq (.l 112) (.c (.int .i64 (0))), none⟩, []),
                  (⟨(.l 114), .mv (.l 113), none⟩, []),
                  (⟨(.l 115), .load 2 true (.p 13), some ((.l 114), true)⟩, []),
                  (⟨(.l 116), .mv (.p 14), some ((.l 114), true)⟩, [3]),
                  (⟨(.l 117), .mv (.p 15), some ((.l 114), true)⟩, [3, 4]),
                  (⟨(.l 118), .load 2 true (.p 5), some ((.l 114), true)⟩, [3, 4, 5]),
                  (⟨(.l 119), .call (.c (.fn (.func 23) [] [])) [(.l 115), (.l 116), (.l 117), (.l 118)], some ((.l 114), true)⟩, []),
                  (⟨(.l 120), .un .not (.l 119), some ((.l 114), true)⟩, []),
                  (⟨(.l 121), .pick (.l 114) (.l 120) (.c (.bool false)), none⟩, []),
                  (⟨(.l 122), .mv (.l 121), none⟩, []),
                  (⟨(.l 123), .mv (.p 15), some ((.l 122), false)⟩, []),
                  (⟨(.l 124), .bin .eql (.l 123) (.c (.int .i64 (0))), some ((.l 122), false)⟩, []),
                  (⟨(.l 125), .mv (.l 124), some ((.l 122), false)⟩, []),
                  (⟨(.l 126), .load 2 true (.p 13), some ((.l 125), true)⟩, []),
                  (⟨(.l 127), .mv (.p 14), some ((.l 125), true)⟩, [14]),
                  (⟨(.l 128), .load 2 true (.p 5), some ((.l 125), true)⟩, [14, 15]),
                  (⟨(.l 129), .mv (.p 2), some ((.l 125), true)⟩, [14, 15, 16]),
                  (⟨(.l 130), .call (.c (.fn (.func 75) [] [])) [(.l 128), (.l 129)], some ((.l 125), true)⟩, [14, 15]),
                  (⟨(.l 131), .call (.c (.fn (.func 23) [] [])) [(.l 126), (.l 127), (.c (.int .i64 (0))), (.l 130)], some ((.l 125), true)⟩, []),
                  (⟨(.l 132), .un .not (.l 131), some ((.l 125), true)⟩, []),
                  (⟨(.l 133), .pick (.l 125) (.l 132) (.c (.bool false)), some ((.l 122), false)⟩, []),
                  (⟨(.l 134), .pick (.l 122) (.c (.bool true)) (.l 133), none⟩, [])])
                (.cond (.l 134)
                 (.seq (.region [⟨(.p 4), .mv (.c (.bool false)), none⟩])
                  (.ret))
                 (.skip)))
               (.seq (.seq (.region [⟨(.l 135), .mv (.p 1), none⟩,
                   ⟨(.l 136), .call (.c (.fn (.func 27) [] [])) [(.l 135)], none⟩,
                   ⟨(.l 137), .un .not (.l 136), none⟩])
                 (.cond (.l 137)
                  (.seq (.region [⟨(.l 138), .mv (.p 9), none⟩,
                     ⟨(.l 139), .mv (.p 10), none⟩,
                     ⟨(.l 140), .call (.c (.fn (.func 42) [] [])) [(.l 138), (.l 139), (.c (.int .i64 (8))), (.c (.int .i64 (0)))], none⟩,
                     ⟨(.p 4), .mv (.l 140), none⟩])
                   (.ret))
                  (.skip)))
                (.seq (.draw [(⟨(.l 141), .load 2 true (.p 5), none⟩, []),
                   (⟨(.l 142), .mv (.p 1), none⟩, [0]),
                   (⟨(.l 143), .index (.l 142) (.c (.int .i64 (0))), none⟩, [0]),
                   (⟨(.l 144), .call (.c (.fn (.func 28) [] [])) [(.l 141), (.l 143)], none⟩, []),
                   (⟨(.p 16), .mv (.l 144), none⟩, [])])
                 (.seq (.region [⟨(.l 145), .mv (.p 9), none⟩,
                    ⟨(.l 146), .mv (.p 10), none⟩,
                    ⟨(.l 147), .mv (.p 16), none⟩,
                    ⟨(.l 148), .bin .lss (.l 147) (.c (.int .i64 (0))), none⟩,
                    ⟨(.l 149), .call (.c (.fn (.func 20) [] [])) [(.l 148), (.c (.int .i64 (7)))], none⟩,
                    ⟨(.l 150), .mv (.p 16), none⟩,
                    ⟨(.l 151), .call (.c (.fn (.func 42) [] [])) [(.l 145), (.l 146), (.l 149), (.l 150)], none⟩,
                    ⟨(.p 4), .mv (.l 151), none⟩])
                  (.ret)))))))))))))))))
theorem ft13 : FT 13 = some ⟨152, [0, 1, 2, 3, 6, 7, 8, 9, 10, 11, 12, 13, 14, 15, 16, 17, 18], [.var (.p 4)], b13⟩ := by kernel_rfl

def b16_0 : ICode :=
 .seq (.seq (.region [⟨(.l 20), .mv (.p 3), none⟩,
     ⟨(.l 21), .faddr 1 (.p 1), none⟩,
     ⟨(.l 22), .load 1 false (.l 21), none⟩,
     ⟨(.l 23), .len .sl (.l 22), none⟩,
     ⟨(.l 24), .bin .lss (.l 20) (.l 23), none⟩])
   (.cond (.l 24)
    (.skip)
    (.exit 0)))
  (.seq (.block 1
    (.seq (.region [⟨(.l 27), .faddr 1 (.p 1), none⟩,
       ⟨(.l 28), .load 1 false (.l 27), none⟩,
       ⟨(.l 29), .mv (.p 3), none⟩,
       ⟨(.l 30), .iaddr none 1 (.l 28) (.l 29), none⟩,
       ⟨(.l 31), .load 1 false (.l 30), none⟩,
       ⟨(.l 32), .len .str (.l 31), none⟩,
       ⟨(.l 33), .bin .gtr (.l 32) (.c (.int .i64 (66))), none⟩])
     (.cond (.l 33)
      (.seq (.region [⟨(.p 2), .mv (.c (.bool false)), none⟩])
       (.ret))
      (.skip))))
   (.region [⟨(.l 25), .mv (.p 3), none⟩,
     ⟨(.l 26), .bin .add (.l 25) (.c (.int .i64 (1))), none⟩,
     ⟨(.p 3), .mv (.l 26), none⟩]))
/-- stadion/stadionref05.Short -/
def b16 : ICode :=
 .seq (.region [⟨(.p 1), .box 25 2 (.p 0), none⟩,
    ⟨(.p 2), .mv (.c (.bool false)), none⟩])
  (.seq (.seq (.region [⟨(.l 4), .faddr 1 (.p 1), none⟩,
      ⟨(.l 5), .load 1 false (.l 4), none⟩,
      ⟨(.l 6), .len .sl (.l 5), none⟩,
      ⟨(.l 7), .bin .gtr (.l 6) (.c (.int .i64 (60))), none⟩,
      ⟨(.l 8), .mv (.l 7), none⟩,
      ⟨(.l 9), .faddr 1 (.p 1), some ((.l 8), true)⟩,
      ⟨(.l 10), .load 1 false (.l 9), some ((.l 8), true)⟩,
      ⟨(.l 11), .len .sl (.l 10), some ((.l 8), true)⟩,
      ⟨(.l 12), .bin .leq (.l 11) (.c (.int .i64 (4096))), some ((.l 8), true)⟩,
      ⟨(.l 13), .pick (.l 8) (.l 12) (.c (.bool false)), none⟩,
      ⟨(.l 14), .mv (.l 13), none⟩,
      ⟨(.l 15), .faddr 1 (.p 1), some ((.l 14), false)⟩,
      ⟨(.l 16), .load 1 false (.l 15), some ((.l 14), false)⟩,
      ⟨(.l 17), .len .sl (.l 16), some ((.l 14), false)⟩,
      ⟨(.l 18), .bin .gtr (.l 17) (.c (.int .i64 (4098))), some ((.l 14), false)⟩,
      ⟨(.l 19), .pick (.l 14) (.c (.bool true)) (.l 18), none⟩])
    (.cond (.l 19)
     (.seq (.region [⟨(.p 2), .mv (.c (.bool false)), none⟩])
      (.ret))
     (.skip)))
   (.seq (.seq (.region [⟨(.p 3), .mv (.c (.int .i64 (0))), none⟩])
     (.block 0
      (.loop b16_0)))
    (.seq (.region [⟨(.p 2), .mv (.c (.bool true)), none⟩])
     (.ret))))
theorem ft16 : FT 16 = some ⟨34, [0, 1, 2, 3], [.var (.p 2)], b16⟩ := by kernel_rfl

def b18_0 : ICode :=
 .seq (.seq (.region [⟨(.l 16), .mv (.p 3), none⟩,
     ⟨(.l 17), .faddr 1 (.p 1), none⟩,
     ⟨(.l 18), .load 1 false (.l 17), none⟩,
     ⟨(.l 19), .len .sl (.l 18), none⟩,
     ⟨(.l 20), .bin .lss (.l 16) (.l 19), none⟩])
   (.cond (.l 20)
    (.skip)
    (.exit 0)))
  (.seq (.block 1
    (.seq (.draw [(⟨(.l 23), .faddr 1 (.p 1), none⟩, []),
       (⟨(.l 24), .load 1 false (.l 23), none⟩, []),
       (⟨(.l 25), .mv (.p 3), none⟩, [0, 1]),
       (⟨(.l 26), .iaddr none 1 (.l 24) (.l 25), none⟩, []),
       (⟨(.l 27), .load 1 false (.l 26), none⟩, []),
       (⟨(.l 28), .faddr 0 (.p 1), none⟩, [0, 1, 2, 3, 4]),
       (⟨(.l 29), .load 1 false (.l 28), none⟩, [0, 1, 2, 3, 4]),
       (⟨(.l 30), .call (.c (.fn (.func 88) [] [])) [(.l 27), (.l 29)], none⟩, []),
       (⟨(.p 4), .mv (.l 30), none⟩, [])])
     (.seq (.region [⟨(.l 31), .mv (.p 4), none⟩,
        ⟨(.l 32), .bin .neq (.l 31) (.c (.int .i64 (0))), none⟩])
      (.cond (.l 32)
       (.seq (.region [⟨(.l 33), .mv (.p 4), none⟩,
          ⟨(.p 2), .mv (.l 33), none⟩])
        (.ret))
       (.skip)))))
   (.region [⟨(.l 21), .mv (.p 3), none⟩,
     ⟨(.l 22), .bin .add (.l 21) (.c (.int .i64 (1))), none⟩,
     ⟨(.p 3), .mv (.l 22), none⟩]))
/-- stadion/stadionref05.CheckImage -/
def b18 : ICode :=
 .seq (.region [⟨(.p 1), .box 25 2 (.p 0), none⟩,
    ⟨(.p 2), .mv (.c (.int .i64 (0))), none⟩])
  (.seq (.seq (.region [⟨(.l 5), .faddr 0 (.p 1), none⟩,
      ⟨(.l 6), .load 1 false (.l 5), none⟩,
      ⟨(.l 7), .call (.c (.fn (.func 87) [] [])) [(.l 6), (.c (.int .i64 (1))), (.c (.int .i64 (64)))], none⟩])
    (.cond (.l 7)
     (.seq (.region [⟨(.p 2), .mv (.c (.int .i64 (3))), none⟩])
      (.ret))
     (.skip)))
   (.seq (.seq (.region [⟨(.l 8), .faddr 1 (.p 1), none⟩,
       ⟨(.l 9), .load 1 false (.l 8), none⟩,
       ⟨(.l 10), .len .sl (.l 9), none⟩,
       ⟨(.l 11), .bin .eql (.l 10) (.c (.int .i64 (0))), none⟩])
     (.cond (.l 11)
      (.seq (.region [⟨(.p 2), .mv (.c (.int .i64 (12))), none⟩])
       (.ret))
      (.skip)))
    (.seq (.seq (.region [⟨(.l 12), .faddr 1 (.p 1), none⟩,
        ⟨(.l 13), .load 1 false (.l 12), none⟩,
        ⟨(.l 14), .len .sl (.l 13), none⟩,
        ⟨(.l 15), .bin .gtr (.l 14) (.c (.int .i64 (4096))), none⟩])
      (.cond (.l 15)
       (.seq (.region [⟨(.p 2), .mv (.c (.int .i64 (5))), none⟩])
        (.ret))
       (.skip)))
     (.seq (.seq (.region [⟨(.p 3), .mv (.c (.int .i64 (0))), none⟩])
       (.block 0
        (.loop b18_0)))
      (.seq (.region [⟨(.p 2), .mv (.c (.int .i64 (0))), none⟩])
       (.ret))))))
theorem ft18 : FT 18 = some ⟨34, [0, 1, 2, 3, 4], [.var (.p 2)], b18⟩ := by kernel_rfl

/-- stadion/stadionlaw05.image -/
def b23 : ICode :=
 .seq (.region [⟨(.p 4), .box 24 2 (.p 0), none⟩,
    ⟨(.p 5), .box 25 2 (.p 3), none⟩,
    ⟨(.p 6), .mv (.c (.bool false)), none⟩])
  (.seq (.seq (.region [⟨(.l 9), .mv (.p 2), none⟩,
      ⟨(.l 10), .bin .neq (.l 9) (.c (.int .i64 (0))), none⟩])
    (.cond (.l 10)
     (.seq (.region [⟨(.l 11), .faddr 0 (.p 4), none⟩,
        ⟨(.l 12), .load 1 false (.l 11), none⟩,
        ⟨(.l 13), .bin .eql (.l 12) (.c (.int .i64 (0))), none⟩,
        ⟨(.l 14), .mv (.l 13), none⟩,
        ⟨(.l 15), .faddr 1 (.p 4), some ((.l 14), true)⟩,
        ⟨(.l 16), .load 1 false (.l 15), some ((.l 14), true)⟩,
        ⟨(.l 17), .len .sl (.l 16), some ((.l 14), true)⟩,
        ⟨(.l 18), .bin .eql (.l 17) (.c (.int .i64 (0))), some ((.l 14), true)⟩,
        ⟨(.l 19), .pick (.l 14) (.l 18) (.c (.bool false)), none⟩,
        ⟨(.l 20), .mv (.l 19), none⟩,
        ⟨(.l 21), .mv (.p 1), some ((.l 20), true)⟩,
        ⟨(.l 22), .mv (.p 2), some ((.l 20), true)⟩,
        ⟨(.l 23), .bin .eql (.l 21) (.l 22), some ((.l 20), true)⟩,
        ⟨(.l 24), .pick (.l 20) (.l 23) (.c (.bool false)), none⟩,
        ⟨(.p 6), .mv (.l 24), none⟩])
      (.ret))
     (.skip)))
   (.seq (.region [⟨(.l 25), .mv (.p 1), none⟩,
      ⟨(.l 26), .bin .eql (.l 25) (.c (.int .i64 (0))), none⟩,
      ⟨(.l 27), .mv (.l 26), none⟩,
      ⟨(.l 28), .load 2 true (.p 4), some ((.l 27), true)⟩,
      ⟨(.l 29), .load 2 true (.p 5), some ((.l 27), true)⟩,
      ⟨(.l 30), .call (.c (.fn (.func 76) [] [])) [(.l 28), (.l 29)], some ((.l 27), true)⟩,
      ⟨(.l 31), .pick (.l 27) (.l 30) (.c (.bool false)), none⟩,
      ⟨(.p 6), .mv (.l 31), none⟩])
    (.ret)))
theorem ft23 : FT 23 = some ⟨32, [0, 1, 2, 3, 4, 7, 8], [.var (.p 6)], b23⟩ := by kernel_rfl

/-- stadion/stadionref05.IsAthlete -/
def b27 : ICode :=
 .seq (.region [⟨(.p 1), .mv (.c (.bool false)), none⟩])
  (.seq (.region [⟨(.l 3), .mv (.p 0), none⟩,
     ⟨(.l 4), .len .str (.l 3), none⟩,
     ⟨(.l 5), .bin .eql (.l 4) (.c (.int .i64 (1))), none⟩,
     ⟨(.l 6), .mv (.l 5), none⟩,
     ⟨(.l 7), .mv (.p 0), some ((.l 6), true)⟩,
     ⟨(.l 8), .index (.l 7) (.c (.int .i64 (0))), some ((.l 6), true)⟩,
     ⟨(.l 9), .bin .geq (.l 8) (.c (.int .u8 (65))), some ((.l 6), true)⟩,
     ⟨(.l 10), .pick (.l 6) (.l 9) (.c (.bool false)), none⟩,
     ⟨(.l 11), .mv (.l 10), none⟩,
     ⟨(.l 12), .mv (.p 0), some ((.l 11), true)⟩,
     ⟨(.l 13), .index (.l 12) (.c (.int .i64 (0))), some ((.l 11), true)⟩,
     ⟨(.l 14), .bin .leq (.l 13) (.c (.int .u8 (90))), some ((.l 11), true)⟩,
     ⟨(.l 15), .pick (.l 11) (.l 14) (.c (.bool false)), none⟩,
     ⟨(.p 1), .mv (.l 15), none⟩])
   (.ret))
theorem ft27 : FT 27 = some ⟨16, [0, 2], [.var (.p 1)], b27⟩ := by kernel_rfl

def b28_0 : ICode :=
 .seq (.seq (.region [⟨(.l 14), .mv (.p 5), none⟩,
     ⟨(.l 15), .faddr 1 (.p 2), none⟩,
     ⟨(.l 16), .load 1 false (.l 15), none⟩,
     ⟨(.l 17), .mv (.p 4), none⟩,
     ⟨(.l 18), .iaddr none 1 (.l 16) (.l 17), none⟩,
     ⟨(.l 19), .load 1 false (.l 18), none⟩,
     ⟨(.l 20), .len .str (.l 19), none⟩,
     ⟨(.l 21), .bin .lss (.l 14) (.l 20), none⟩])
   (.cond (.l 21)
    (.skip)
    (.exit 2)))
  (.seq (.block 3
    (.seq (.region [⟨(.l 24), .faddr 1 (.p 2), none⟩,
       ⟨(.l 25), .load 1 false (.l 24), none⟩,
       ⟨(.l 26), .mv (.p 4), none⟩,
       ⟨(.l 27), .iaddr none 1 (.l 25) (.l 26), none⟩,
       ⟨(.l 28), .load 1 false (.l 27), none⟩,
       ⟨(.l 29), .mv (.p 5), none⟩,
       ⟨(.l 30), .index (.l 28) (.l 29), none⟩,
       ⟨(.l 31), .mv (.p 1), none⟩,
       ⟨(.l 32), .bin .eql (.l 30) (.l 31), none⟩])
     (.cond (.l 32)
      (.seq (.region [⟨(.l 33), .mv (.p 4), none⟩,
         ⟨(.p 3), .mv (.l 33), none⟩])
       (.ret))
      (.skip))))
   (.region [⟨(.l 22), .mv (.p 5), none⟩,
     ⟨(.l 23), .bin .add (.l 22) (.c (.int .i64 (1))), none⟩,
     ⟨(.p 5), .mv (.l 23), none⟩]))
def b28_1 : ICode :=
 .seq (.seq (.region [⟨(.l 7), .mv (.p 4), none⟩,
     ⟨(.l 8), .faddr 1 (.p 2), none⟩,
     ⟨(.l 9), .load 1 false (.l 8), none⟩,
     ⟨(.l 10), .len .sl (.l 9), none⟩,
     ⟨(.l 11), .bin .lss (.l 7) (.l 10), none⟩])
   (.cond (.l 11)
    (.skip)
    (.exit 0)))
  (.seq (.block 1
    (.seq (.region [⟨(.p 5), .mv (.c (.int .i64 (0))), none⟩])
     (.block 2
      (.loop b28_0))))
   (.region [⟨(.l 12), .mv (.p 4), none⟩,
     ⟨(.l 13), .bin .add (.l 12) (.c (.int .i64 (1))), none⟩,
     ⟨(.p 4), .mv (.l 13), none⟩]))
/-- stadion/stadionref05.First -/
def b28 : ICode :=
 .seq (.region [⟨(.p 2), .box 25 2 (.p 0), none⟩,
    ⟨(.p 3), .mv (.c (.int .i64 (0))), none⟩])
  (.seq (.seq (.region [⟨(.p 4), .mv (.c (.int .i64 (0))), none⟩])
    (.block 0
     (.loop b28_1)))
   (.seq (.region [⟨(.p 3), .mv (.c (.int .i64 (-1))), none⟩])
    (.ret)))
theorem ft28 : FT 28 = some ⟨34, [0, 1, 2, 4, 5, 6], [.var (.p 3)], b28⟩ := by kernel_rfl

/-- stadion/finish.Torsos -/
def b55 : ICode :=
 .seq (.region [⟨(.p 1), .box 24 2 (.p 0), none⟩,
    ⟨(.p 2), .mv (.c (.nilsl)), none⟩,
    ⟨(.p 3), .mv (.c (.int .i64 (0))), none⟩])
  (.seq (.seq (.region [⟨(.l 5), .load 2 true (.p 1), none⟩,
      ⟨(.l 6), .call (.c (.fn (.func 70) [] [])) [(.l 5)], none⟩,
      ⟨(.p 4), .mv (.l 6), none⟩])
    (.seq (.region [⟨(.l 7), .mv (.p 4), none⟩,
       ⟨(.l 8), .bin .neq (.l 7) (.c (.int .i64 (0))), none⟩])
     (.cond (.l 8)
      (.seq (.region [⟨(.l 9), .mv (.p 4), none⟩,
         ⟨(.p 2), .mv (.c (.nilsl)), none⟩,
         ⟨(.p 3), .mv (.l 9), none⟩])
       (.ret))
      (.skip))))
   (.seq (.region [⟨(.l 10), .load 2 true (.p 1), none⟩,
      ⟨(.l 11), .call (.c (.fn (.func 115) [] [])) [(.l 10)], none⟩,
      ⟨(.l 12), .call (.c (.fn (.func 136) [] [])) [(.l 11)], none⟩,
      ⟨(.p 2), .mv (.l 12), none⟩,
      ⟨(.p 3), .mv (.c (.int .i64 (0))), none⟩])
    (.ret)))
theorem ft55 : FT 55 = some ⟨13, [0, 1, 2, 3, 4], [.var (.p 2), .var (.p 3)], b55⟩ := by kernel_rfl

/-- stadion/finish.First -/
def b56 : ICode :=
 .seq (.region [⟨(.p 2), .box 24 2 (.p 0), none⟩,
    ⟨(.p 3), .mv (.c (.int .i64 (0))), none⟩,
    ⟨(.p 4), .mv (.c (.int .i64 (0))), none⟩])
  (.seq (.seq (.region [⟨(.l 8), .load 2 true (.p 2), none⟩,
      ⟨(.l 9), .call (.c (.fn (.func 70) [] [])) [(.l 8)], none⟩,
      ⟨(.l 10), .mv (.p 1), none⟩,
      ⟨(.l 11), .call (.c (.fn (.func 97) [] [])) [(.l 10)], none⟩,
      ⟨(.l 12), .bslice 28 2 1 [.int .i64 (0)] [(0, 1, (.l 9)), (1, 1, (.l 11))], none⟩,
      ⟨(.l 13), .call (.c (.fn (.func 90) [] [])) [(.l 12)], none⟩,
      ⟨(.p 5), .mv (.l 13), none⟩])
    (.seq (.region [⟨(.l 14), .mv (.p 5), none⟩,
       ⟨(.l 15), .bin .neq (.l 14) (.c (.int .i64 (0))), none⟩])
     (.cond (.l 15)
      (.seq (.region [⟨(.l 16), .mv (.p 5), none⟩,
         ⟨(.p 3), .mv (.c (.int .i64 (0))), none⟩,
         ⟨(.p 4), .mv (.l 16), none⟩])
       (.ret))
      (.skip))))
   (.seq (.region [⟨(.l 17), .load 2 true (.p 2), none⟩,
      ⟨(.l 18), .mv (.p 1), none⟩,
      ⟨(.l 19), .call (.c (.fn (.func 98) [] [])) [(.l 17), (.l 18)], none⟩,
      ⟨(.p 6), .mv (.l 19), none⟩])
    (.seq (.seq (.region [⟨(.l 20), .mv (.p 6), none⟩,
        ⟨(.l 21), .bin .lss (.l 20) (.c (.int .i64 (0))), none⟩])
      (.cond (.l 21)
       (.seq (.region [⟨(.p 3), .mv (.c (.int .i64 (0))), none⟩,
          ⟨(.p 4), .mv (.c (.int .i64 (7))), none⟩])
        (.ret))
       (.skip)))
     (.seq (.region [⟨(.l 22), .mv (.p 6), none⟩,
        ⟨(.p 3), .mv (.l 22), none⟩,
        ⟨(.p 4), .mv (.c (.int .i64 (0))), none⟩])
      (.ret)))))
theorem ft56 : FT 56 = some ⟨23, [0, 1, 2, 4, 5, 6, 7], [.var (.p 3), .var (.p 4)], b56⟩ := by kernel_rfl

/-- stadion/stadionref05.Outside -/
def b59 : ICode :=
 .seq (.region [⟨(.p 3), .mv (.c (.int .i64 (0))), none⟩])
  (.seq (.seq (.region [⟨(.l 7), .mv (.p 0), none⟩,
      ⟨(.l 8), .mv (.p 1), none⟩,
      ⟨(.l 9), .mv (.p 2), none⟩,
      ⟨(.l 10), .call (.c (.fn (.func 87) [] [])) [(.l 7), (.l 8), (.l 9)], none⟩])
    (.cond (.l 10)
     (.seq (.region [⟨(.p 3), .mv (.c (.int .i64 (3))), none⟩])
      (.ret))
     (.skip)))
   (.seq (.region [⟨(.p 3), .mv (.c (.int .i64 (0))), none⟩])
    (.ret)))
theorem ft59 : FT 59 = some ⟨11, [0, 1, 2, 6], [.var (.p 3)], b59⟩ := by kernel_rfl

def b66_0 : ICode :=
 .seq (.region [⟨(.l 31), .bin .lss (.p 10) (.p 9), none⟩])
  (.seq (.cond (.l 31)
    (.skip)
    (.exit 0))
   (.seq (.block 1
     (.seq (.region [⟨(.l 32), .iaddr none 1 (.p 8) (.p 10), none⟩,
        ⟨(.l 33), .load 1 false (.l 32), none⟩,
        ⟨(.p 7), .mv (.l 33), none⟩])
      (.region [⟨(.l 34), .mv (.p 6), none⟩,
        ⟨(.l 35), .mv (.p 7), none⟩,
        ⟨(.l 36), .bslice 9 1 1 [.str []] [(0, 1, (.l 35))], none⟩,
        ⟨(.l 37), .mv (.p 1), none⟩,
        ⟨(.l 38), .call (.c (.fn (.func 150) [] [])) [(.l 36), (.l 37)], none⟩,
        ⟨(.l 39), .append 9 1 16 (.l 34) (.l 38), none⟩,
        ⟨(.p 6), .mv (.l 39), none⟩])))
    (.region [⟨(.l 40), .bin .add (.p 10) (.c (.int .i64 (1))), none⟩,
      ⟨(.p 10), .mv (.l 40), none⟩])))
/-- stadion/finish.Stretched -/
def b66 : ICode :=
 .seq (.region [⟨(.p 2), .box 24 2 (.p 0), none⟩,
    ⟨(.p 3), .alloc 24 [.int .i64 (0), .nilsl], none⟩,
    ⟨(.p 4), .mv (.c (.int .i64 (0))), none⟩])
  (.seq (.seq (.draw [(⟨(.l 10), .load 2 true (.p 2), none⟩, []),
      (⟨(.l 11), .call (.c (.fn (.func 70) [] [])) [(.l 10)], none⟩, []),
      (⟨(.l 12), .mv (.p 1), none⟩, [0, 1]),
      (⟨(.l 13), .call (.c (.fn (.func 121) [] [])) [(.l 12), (.c (.int .i64 (1))), (.c (.int .i64 (4096)))], none⟩, []),
      (⟨(.l 14), .faddr 1 (.p 2), none⟩, [0, 1, 2, 3]),
      (⟨(.l 15), .load 1 false (.l 14), none⟩, [0, 1, 2, 3]),
      (⟨(.l 16), .len .sl (.l 15), none⟩, [0, 1, 2, 3]),
      (⟨(.l 17), .mv (.p 1), none⟩, [0, 1, 2, 3, 4, 5, 6]),
      (⟨(.l 18), .bin .mul (.l 16) (.l 17), none⟩, [0, 1, 2, 3]),
      (⟨(.l 19), .bin .gtr (.l 18) (.c (.int .i64 (4096))), none⟩, [0, 1, 2, 3]),
      (⟨(.l 20), .call (.c (.fn (.func 91) [] [])) [(.l 19), (.c (.int .i64 (5)))], none⟩, []),
      (⟨(.l 21), .bslice 28 3 1 [.int .i64 (0)] [(0, 1, (.l 11)), (1, 1, (.l 13)), (2, 1, (.l 20))], none⟩, []),
      (⟨(.l 22), .call (.c (.fn (.func 90) [] [])) [(.l 21)], none⟩, []),
      (⟨(.p 5), .mv (.l 22), none⟩, [])])
    (.seq (.region [⟨(.l 23), .mv (.p 5), none⟩,
       ⟨(.l 24), .bin .neq (.l 23) (.c (.int .i64 (0))), none⟩])
     (.cond (.l 24)
      (.seq (.region [⟨(.l 25), .build [.int .i64 (0), .nilsl] [], none⟩,
         ⟨(.l 26), .mv (.p 5), none⟩,
         ⟨.no, .store 2 (.p 3) (.l 25), none⟩,
         ⟨(.p 4), .mv (.l 26), none⟩])
       (.ret))
      (.skip))))
   (.seq (.region [⟨(.p 6), .mv (.c (.nilsl)), none⟩])
    (.seq (.seq (.region [⟨(.l 27), .faddr 1 (.p 2), none⟩,
        ⟨(.p 8), .load 1 false (.l 27), none⟩,
        ⟨(.p 9), .len .sl (.p 8), none⟩,
        ⟨(.p 10), .mv (.c (.int .i64 (0))), none⟩])
      (.block 0
       (.loop b66_0)))
     (.seq (.region [⟨(.l 41), .faddr 0 (.p 2), none⟩,
        ⟨(.l 42), .load 1 false (.l 41), none⟩,
        ⟨(.l 43), .mv (.p 6), none⟩,
        ⟨(.l 44), .build [.int .i64 (0), .nilsl] [(0, 1, (.l 42)), (1, 1, (.l 43))], none⟩,
        ⟨.no, .store 2 (.p 3) (.l 44), none⟩,
        ⟨(.p 4), .mv (.c (.int .i64 (0))), none⟩])
      (.ret)))))
theorem ft66 : FT 66 = some ⟨45, [0, 1, 2, 4, 5, 6, 7, 9, 28, 29, 30], [.cell 2 true (.p 3), .var (.p 4)], b66⟩ := by kernel_rfl

def b70_0 : ICode :=
 .seq (.region [⟨(.l 29), .bin .lss (.p 8) (.p 7), none⟩])
  (.seq (.cond (.l 29)
    (.skip)
    (.exit 0))
   (.seq (.block 1
     (.seq (.region [⟨(.l 30), .iaddr none 1 (.p 6) (.p 8), none⟩,
        ⟨(.l 31), .load 1 false (.l 30), none⟩,
        ⟨(.p 4), .mv (.l 31), none⟩])
      (.seq (.region [⟨(.l 32), .mv (.p 4), none⟩,
         ⟨(.l 33), .len .str (.l 32), none⟩,
         ⟨(.l 34), .faddr 0 (.p 1), none⟩,
         ⟨(.l 35), .load 1 false (.l 34), none⟩,
         ⟨(.l 36), .bin .neq (.l 33) (.l 35), none⟩,
         ⟨(.l 37), .call (.c (.fn (.func 91) [] [])) [(.l 36), (.c (.int .i64 (2)))], none⟩,
         ⟨(.l 38), .mv (.p 4), none⟩,
         ⟨(.l 39), .call (.c (.fn (.func 153) [] [])) [(.l 38)], none⟩,
         ⟨(.l 40), .un .not (.l 39), none⟩,
         ⟨(.l 41), .call (.c (.fn (.func 91) [] [])) [(.l 40), (.c (.int .i64 (1)))], none⟩,
         ⟨(.l 42), .bslice 28 2 1 [.int .i64 (0)] [(0, 1, (.l 37)), (1, 1, (.l 41))], none⟩,
         ⟨(.l 43), .call (.c (.fn (.func 90) [] [])) [(.l 42)], none⟩,
         ⟨(.p 5), .mv (.l 43), none⟩])
       (.seq (.region [⟨(.l 44), .mv (.p 5), none⟩,
          ⟨(.l 45), .bin .neq (.l 44) (.c (.int .i64 (0))), none⟩])
        (.cond (.l 45)
         (.seq (.region [⟨(.l 46), .mv (.p 5), none⟩,
            ⟨(.p 2), .mv (.l 46), none⟩])
          (.ret))
         (.skip))))))
    (.region [⟨(.l 47), .bin .add (.p 8) (.c (.int .i64 (1))), none⟩,
      ⟨(.p 8), .mv (.l 47), none⟩])))
/-- stadion/finish.CheckImage -/
def b70 : ICode :=
 .seq (.region [⟨(.p 1), .box 24 2 (.p 0), none⟩,
    ⟨(.p 2), .mv (.c (.int .i64 (0))), none⟩])
  (.seq (.seq (.draw [(⟨(.l 7), .faddr 0 (.p 1), none⟩, []),
      (⟨(.l 8), .load 1 false (.l 7), none⟩, []),
      (⟨(.l 9), .call (.c (.fn (.func 121) [] [])) [(.l 8), (.c (.int .i64 (1))), (.c (.int .i64 (64)))], none⟩, []),
      (⟨(.l 10), .faddr 1 (.p 1), none⟩, [0, 1, 2]),
      (⟨(.l 11), .load 1 false (.l 10), none⟩, [0, 1, 2]),
      (⟨(.l 12), .len .sl (.l 11), none⟩, [0, 1, 2]),
      (⟨(.l 13), .bin .eql (.l 12) (.c (.int .i64 (0))), none⟩, [0, 1, 2]),
      (⟨(.l 14), .call (.c (.fn (.func 91) [] [])) [(.l 13), (.c (.int .i64 (12)))], none⟩, []),
      (⟨(.l 15), .faddr 1 (.p 1), none⟩, [0, 1, 2, 3, 4, 5, 6, 7]),
      (⟨(.l 16), .load 1 false (.l 15), none⟩, [0, 1, 2, 3, 4, 5, 6, 7]),
      (⟨(.l 17), .len .sl (.l 16), none⟩, [0, 1, 2, 3, 4, 5, 6, 7]),
      (⟨(.l 18), .bin .gtr (.l 17) (.c (.int .i64 (4096))), none⟩, [0, 1, 2, 3, 4, 5, 6, 7]),
      (⟨(.l 19), .call (.c (.fn (.func 91) [] [])) [(.l 18), (.c (.int .i64 (5)))], none⟩, []),
      (⟨(.l 20), .bslice 28 3 1 [.int .i64 (0)] [(0, 1, (.l 9)), (1, 1, (.l 14)), (2, 1, (.l 19))], none⟩, []),
      (⟨(.l 21), .call (.c (.fn (.func 90) [] [])) [(.l 20)], none⟩, []),
      (⟨(.p 3), .mv (.l 21), none⟩, [])])
    (.seq (.region [⟨(.l 22), .mv (.p 3), none⟩,
       ⟨(.l 23), .bin .neq (.l 22) (.c (.int .i64 (0))), none⟩])
     (.cond (.l 23)
      (.seq (.region [⟨(.l 24), .mv (.p 3), none⟩,
         ⟨(.p 2), .mv (.l 24), none⟩])
       (.ret))
      (.skip))))
   (.seq (.seq (.region [⟨(.l 25), .faddr 1 (.p 1), none⟩,
       ⟨(.p 6), .load 1 false (.l 25), none⟩,
       ⟨(.p 7), .len .sl (.p 6), none⟩,
       ⟨(.p 8), .mv (.c (.int .i64 (0))), none⟩])
     (.block 0
      (.loop b70_0)))
    (.seq (.region [⟨(.p 2), .mv (.c (.int .i64 (0))), none⟩])
     (.ret))))
theorem ft70 : FT 70 = some ⟨48, [0, 1, 2, 3, 5, 6, 26, 27, 28], [.var (.p 2)], b70⟩ := by kernel_rfl

/-- stadion/finish.Mirrored -/
def b71 : ICode :=
 .seq (.region [⟨(.p 1), .box 24 2 (.p 0), none⟩,
    ⟨(.p 2), .alloc 24 [.int .i64 (0), .nilsl], none⟩,
    ⟨(.p 3), .mv (.c (.int .i64 (0))), none⟩])
  (.seq (.seq (.region [⟨(.l 5), .load 2 true (.p 1), none⟩,
      ⟨(.l 6), .call (.c (.fn (.func 70) [] [])) [(.l 5)], none⟩,
      ⟨(.p 4), .mv (.l 6), none⟩])
    (.seq (.region [⟨(.l 7), .mv (.p 4), none⟩,
       ⟨(.l 8), .bin .neq (.l 7) (.c (.int .i64 (0))), none⟩])
     (.cond (.l 8)
      (.seq (.region [⟨(.l 9), .build [.int .i64 (0), .nilsl] [], none⟩,
         ⟨(.l 10), .mv (.p 4), none⟩,
         ⟨.no, .store 2 (.p 2) (.l 9), none⟩,
         ⟨(.p 3), .mv (.l 10), none⟩])
       (.ret))
      (.skip))))
   (.seq (.draw [(⟨(.l 11), .faddr 0 (.p 1), none⟩, []),
      (⟨(.l 12), .load 1 false (.l 11), none⟩, []),
      (⟨(.l 13), .faddr 1 (.p 1), none⟩, [0, 1]),
      (⟨(.l 14), .load 1 false (.l 13), none⟩, [0, 1]),
      (⟨(.l 15), .call (.c (.fn (.func 154) [] [])) [(.l 14)], none⟩, [0, 1]),
      (⟨(.l 16), .build [.int .i64 (0), .nilsl] [(0, 1, (.l 12)), (1, 1, (.l 15))], none⟩, []),
      (⟨.no, .store 2 (.p 2) (.l 16), none⟩, []),
      (⟨(.p 3), .mv (.c (.int .i64 (0))), none⟩, [])])
    (.ret)))
theorem ft71 : FT 71 = some ⟨17, [0, 1, 2, 3, 4], [.cell 2 true (.p 2), .var (.p 3)], b71⟩ := by kernel_rfl

/-- stadion/stadionlaw05.words -/
def b72 : ICode :=
 .seq (.region [⟨(.p 4), .mv (.c (.bool false)), none⟩])
  (.seq (.seq (.region [⟨(.l 9), .mv (.p 2), none⟩,
      ⟨(.l 10), .bin .neq (.l 9) (.c (.int .i64 (0))), none⟩])
    (.cond (.l 10)
     (.seq (.region [⟨(.l 11), .mv (.p 0), none⟩,
        ⟨(.l 12), .len .sl (.l 11), none⟩,
        ⟨(.l 13), .bin .eql (.l 12) (.c (.int .i64 (0))), none⟩,
        ⟨(.l 14), .mv (.l 13), none⟩,
        ⟨(.l 15), .mv (.p 1), some ((.l 14), true)⟩,
        ⟨(.l 16), .mv (.p 2), some ((.l 14), true)⟩,
        ⟨(.l 17), .bin .eql (.l 15) (.l 16), some ((.l 14), true)⟩,
        ⟨(.l 18), .pick (.l 14) (.l 17) (.c (.bool false)), none⟩,
        ⟨(.p 4), .mv (.l 18), none⟩])
      (.ret))
     (.skip)))
   (.seq (.region [⟨(.l 19), .mv (.p 1), none⟩,
      ⟨(.l 20), .bin .eql (.l 19) (.c (.int .i64 (0))), none⟩,
      ⟨(.l 21), .mv (.l 20), none⟩,
      ⟨(.l 22), .mv (.p 0), some ((.l 21), true)⟩,
      ⟨(.l 23), .mv (.p 3), some ((.l 21), true)⟩,
      ⟨(.l 24), .call (.c (.fn (.func 79) [] [])) [(.l 22), (.l 23)], some ((.l 21), true)⟩,
      ⟨(.l 25), .pick (.l 21) (.l 24) (.c (.bool false)), none⟩,
      ⟨(.p 4), .mv (.l 25), none⟩])
    (.ret)))
theorem ft72 : FT 72 = some ⟨26, [0, 1, 2, 3, 8], [.var (.p 4)], b72⟩ := by kernel_rfl

def b73_0 : ICode :=
 .seq (.seq (.region [⟨(.l 5), .mv (.p 4), none⟩,
     ⟨(.l 6), .bin .leq (.l 5) (.c (.int .i32 (90))), none⟩])
   (.cond (.l 6)
    (.skip)
    (.exit 0)))
  (.seq (.block 1
    (.seq (.region [⟨(.l 9), .load 2 true (.p 1), none⟩,
       ⟨(.l 10), .mv (.p 4), none⟩,
       ⟨(.l 11), .convInt .u8 (.l 10), none⟩,
       ⟨(.l 12), .call (.c (.fn (.func 28) [] [])) [(.l 9), (.l 11)], none⟩,
       ⟨(.l 13), .bin .geq (.l 12) (.c (.int .i64 (0))), none⟩])
     (.cond (.l 13)
      (.region [⟨(.l 14), .mv (.p 3), none⟩,
        ⟨(.l 15), .mv (.p 4), none⟩,
        ⟨(.l 16), .convRune (.l 15), none⟩,
        ⟨(.l 17), .bslice 9 1 1 [.str []] [(0, 1, (.l 16))], none⟩,
        ⟨(.l 18), .append 9 1 16 (.l 14) (.l 17), none⟩,
        ⟨(.p 3), .mv (.l 18), none⟩])
      (.skip))))
   (.region [⟨(.l 7), .mv (.p 4), none⟩,
     ⟨(.l 8), .bin .add (.l 7) (.c (.int .i32 (1))), none⟩,
     ⟨(.p 4), .mv (.l 8), none⟩]))
/-- stadion/stadionref05.Torsos -/
def b73 : ICode :=
 .seq (.region [⟨(.p 1), .box 25 2 (.p 0), none⟩,
    ⟨(.p 2), .mv (.c (.nilsl)), none⟩])
  (.seq (.region [⟨(.p 3), .mv (.c (.nilsl)), none⟩])
   (.seq (.seq (.region [⟨(.p 4), .mv (.c (.int .i32 (65))), none⟩])
     (.block 0
      (.loop b73_0)))
    (.seq (.region [⟨(.l 19), .mv (.p 3), none⟩,
       ⟨(.p 2), .mv (.l 19), none⟩])
     (.ret))))
theorem ft73 : FT 73 = some ⟨20, [0, 1, 2, 3, 4], [.var (.p 2)], b73⟩ := by kernel_rfl

def b74_0 : ICode :=
 .seq (.seq (.region [⟨(.l 12), .mv (.p 4), none⟩,
     ⟨(.l 13), .bin .geq (.l 12) (.c (.int .i64 (0))), none⟩])
   (.cond (.l 13)
    (.skip)
    (.exit 0)))
  (.seq (.block 1
    (.draw [(⟨(.l 16), .faddr 1 (.p 3), none⟩, []),
      (⟨(.l 17), .load 1 false (.l 16), none⟩, []),
      (⟨(.l 18), .faddr 1 (.p 1), none⟩, [0, 1]),
      (⟨(.l 19), .load 1 false (.l 18), none⟩, [0, 1]),
      (⟨(.l 20), .mv (.p 4), none⟩, [0, 1, 2, 3]),
      (⟨(.l 21), .iaddr none 1 (.l 19) (.l 20), none⟩, [0, 1]),
      (⟨(.l 22), .load 1 false (.l 21), none⟩, [0, 1]),
      (⟨(.l 23), .bslice 9 1 1 [.str []] [(0, 1, (.l 22))], none⟩, [0, 1]),
      (⟨(.l 24), .append 9 1 16 (.l 17) (.l 23), none⟩, []),
      (⟨(.l 25), .faddr 1 (.p 3), none⟩, []),
      (⟨.no, .store 1 (.l 25) (.l 24), none⟩, [])]))
   (.region [⟨(.l 14), .mv (.p 4), none⟩,
     ⟨(.l 15), .bin .sub (.l 14) (.c (.int .i64 (1))), none⟩,
     ⟨(.p 4), .mv (.l 15), none⟩]))
/-- stadion/stadionref05.Mirrored -/
def b74 : ICode :=
 .seq (.region [⟨(.p 1), .box 25 2 (.p 0), none⟩,
    ⟨(.p 2), .alloc 25 [.int .i64 (0), .nilsl], none⟩])
  (.seq (.region [⟨(.l 5), .faddr 0 (.p 1), none⟩,
     ⟨(.l 6), .load 1 false (.l 5), none⟩,
     ⟨(.l 7), .build [.int .i64 (0), .nilsl] [(0, 1, (.l 6))], none⟩,
     ⟨(.p 3), .alloc 25 [.int .i64 (0), .nilsl], none⟩,
     ⟨.no, .store 2 (.p 3) (.l 7), none⟩])
   (.seq (.seq (.region [⟨(.l 8), .faddr 1 (.p 1), none⟩,
       ⟨(.l 9), .load 1 false (.l 8), none⟩,
       ⟨(.l 10), .len .sl (.l 9), none⟩,
       ⟨(.l 11), .bin .sub (.l 10) (.c (.int .i64 (1))), none⟩,
       ⟨(.p 4), .mv (.l 11), none⟩])
     (.block 0
      (.loop b74_0)))
    (.seq (.region [⟨(.l 26), .load 2 true (.p 3), none⟩,
       ⟨.no, .store 2 (.p 2) (.l 26), none⟩])
     (.ret))))
theorem ft74 : FT 74 = some ⟨27, [0, 1, 2, 3, 4], [.cell 2 true (.p 2)], b74⟩ := by kernel_rfl

def b75_0 : ICode :=
 .seq (.seq (.region [⟨(.l 18), .mv (.p 6), none⟩,
     ⟨(.l 19), .mv (.p 1), none⟩,
     ⟨(.l 20), .bin .lss (.l 18) (.l 19), none⟩])
   (.cond (.l 20)
    (.skip)
    (.exit 2)))
  (.seq (.block 3
    (.draw [(⟨(.l 23), .faddr 1 (.p 4), none⟩, []),
      (⟨(.l 24), .load 1 false (.l 23), none⟩, []),
      (⟨(.l 25), .faddr 1 (.p 2), none⟩, [0, 1]),
      (⟨(.l 26), .load 1 false (.l 25), none⟩, [0, 1]),
      (⟨(.l 27), .mv (.p 5), none⟩, [0, 1, 2, 3]),
      (⟨(.l 28), .iaddr none 1 (.l 26) (.l 27), none⟩, [0, 1]),
      (⟨(.l 29), .load 1 false (.l 28), none⟩, [0, 1]),
      (⟨(.l 30), .bslice 9 1 1 [.str []] [(0, 1, (.l 29))], none⟩, [0, 1]),
      (⟨(.l 31), .append 9 1 16 (.l 24) (.l 30), none⟩, []),
      (⟨(.l 32), .faddr 1 (.p 4), none⟩, []),
      (⟨.no, .store 1 (.l 32) (.l 31), none⟩, [])]))
   (.region [⟨(.l 21), .mv (.p 6), none⟩,
     ⟨(.l 22), .bin .add (.l 21) (.c (.int .i64 (1))), none⟩,
     ⟨(.p 6), .mv (.l 22), none⟩]))
def b75_1 : ICode :=
 .seq (.seq (.region [⟨(.l 11), .mv (.p 5), none⟩,
     ⟨(.l 12), .faddr 1 (.p 2), none⟩,
     ⟨(.l 13), .load 1 false (.l 12), none⟩,
     ⟨(.l 14), .len .sl (.l 13), none⟩,
     ⟨(.l 15), .bin .lss (.l 11) (.l 14), none⟩])
   (.cond (.l 15)
    (.skip)
    (.exit 0)))
  (.seq (.block 1
    (.seq (.region [⟨(.p 6), .mv (.c (.int .i64 (0))), none⟩])
     (.block 2
      (.loop b75_0))))
   (.region [⟨(.l 16), .mv (.p 5), none⟩,
     ⟨(.l 17), .bin .add (.l 16) (.c (.int .i64 (1))), none⟩,
     ⟨(.p 5), .mv (.l 17), none⟩]))
/-- stadion/stadionref05.Stretched -/
def b75 : ICode :=
 .seq (.region [⟨(.p 2), .box 25 2 (.p 0), none⟩,
    ⟨(.p 3), .alloc 25 [.int .i64 (0), .nilsl], none⟩])
  (.seq (.region [⟨(.l 8), .faddr 0 (.p 2), none⟩,
     ⟨(.l 9), .load 1 false (.l 8), none⟩,
     ⟨(.l 10), .build [.int .i64 (0), .nilsl] [(0, 1, (.l 9))], none⟩,
     ⟨(.p 4), .alloc 25 [.int .i64 (0), .nilsl], none⟩,
     ⟨.no, .store 2 (.p 4) (.l 10), none⟩])
   (.seq (.seq (.region [⟨(.p 5), .mv (.c (.int .i64 (0))), none⟩])
     (.block 0
      (.loop b75_1)))
    (.seq (.region [⟨(.l 33), .load 2 true (.p 4), none⟩,
       ⟨.no, .store 2 (.p 3) (.l 33), none⟩])
     (.ret))))
theorem ft75 : FT 75 = some ⟨34, [0, 1, 2, 4, 5, 6, 7], [.cell 2 true (.p 3)], b75⟩ := by kernel_rfl

/-- stadion/stadionref05.Same -/
def b76 : ICode :=
 .seq (.region [⟨(.p 2), .box 25 2 (.p 0), none⟩,
    ⟨(.p 3), .box 25 2 (.p 1), none⟩,
    ⟨(.p 4), .mv (.c (.bool false)), none⟩])
  (.seq (.region [⟨(.l 5), .faddr 0 (.p 2), none⟩,
     ⟨(.l 6), .load 1 false (.l 5), none⟩,
     ⟨(.l 7), .faddr 0 (.p 3), none⟩,
     ⟨(.l 8), .load 1 false (.l 7), none⟩,
     ⟨(.l 9), .bin .eql (.l 6) (.l 8), none⟩,
     ⟨(.l 10), .mv (.l 9), none⟩,
     ⟨(.l 11), .faddr 1 (.p 2), some ((.l 10), true)⟩,
     ⟨(.l 12), .load 1 false (.l 11), some ((.l 10), true)⟩,
     ⟨(.l 13), .faddr 1 (.p 3), some ((.l 10), true)⟩,
     ⟨(.l 14), .load 1 false (.l 13), some ((.l 10), true)⟩,
     ⟨(.l 15), .call (.c (.fn (.func 79) [] [])) [(.l 12), (.l 14)], some ((.l 10), true)⟩,
     ⟨(.l 16), .pick (.l 10) (.l 15) (.c (.bool false)), none⟩,
     ⟨(.p 4), .mv (.l 16), none⟩])
   (.ret))
theorem ft76 : FT 76 = some ⟨17, [0, 1, 2, 3, 4], [.var (.p 4)], b76⟩ := by kernel_rfl

def b79_0 : ICode :=
 .seq (.seq (.region [⟨(.l 11), .mv (.p 3), none⟩,
     ⟨(.l 12), .mv (.p 0), none⟩,
     ⟨(.l 13), .len .sl (.l 12), none⟩,
     ⟨(.l 14), .bin .lss (.l 11) (.l 13), none⟩])
   (.cond (.l 14)
    (.skip)
    (.exit 0)))
  (.seq (.block 1
    (.seq (.draw [(⟨(.l 17), .mv (.p 0), none⟩, []),
       (⟨(.l 18), .mv (.p 3), none⟩, [0]),
       (⟨(.l 19), .iaddr none 1 (.l 17) (.l 18), none⟩, []),
       (⟨(.l 20), .load 1 false (.l 19), none⟩, []),
       (⟨(.l 21), .mv (.p 1), none⟩, [0, 1, 2, 3]),
       (⟨(.l 22), .mv (.p 3), none⟩, [0, 1, 2, 3, 4]),
       (⟨(.l 23), .iaddr none 1 (.l 21) (.l 22), none⟩, [0, 1, 2, 3]),
       (⟨(.l 24), .load 1 false (.l 23), none⟩, [0, 1, 2, 3]),
       (⟨(.l 25), .bin .neq (.l 20) (.l 24), none⟩, [])])
     (.cond (.l 25)
      (.seq (.region [⟨(.p 2), .mv (.c (.bool false)), none⟩])
       (.ret))
      (.skip))))
   (.region [⟨(.l 15), .mv (.p 3), none⟩,
     ⟨(.l 16), .bin .add (.l 15) (.c (.int .i64 (1))), none⟩,
     ⟨(.p 3), .mv (.l 16), none⟩]))
/-- stadion/stadionref01.SameWords -/
def b79 : ICode :=
 .seq (.region [⟨(.p 2), .mv (.c (.bool false)), none⟩])
  (.seq (.seq (.region [⟨(.l 6), .mv (.p 0), none⟩,
      ⟨(.l 7), .len .sl (.l 6), none⟩,
      ⟨(.l 8), .mv (.p 1), none⟩,
      ⟨(.l 9), .len .sl (.l 8), none⟩,
      ⟨(.l 10), .bin .neq (.l 7) (.l 9), none⟩])
    (.cond (.l 10)
     (.seq (.region [⟨(.p 2), .mv (.c (.bool false)), none⟩])
      (.ret))
     (.skip)))
   (.seq (.seq (.region [⟨(.p 3), .mv (.c (.int .i64 (0))), none⟩])
     (.block 0
      (.loop b79_0)))
    (.seq (.region [⟨(.p 2), .mv (.c (.bool true)), none⟩])
     (.ret))))
theorem ft79 : FT 79 = some ⟨26, [0, 1, 4, 5], [.var (.p 2)], b79⟩ := by kernel_rfl

def b88_0 : ICode :=
 .seq (.seq (.region [⟨(.l 10), .mv (.p 3), none⟩,
     ⟨(.l 11), .mv (.p 0), none⟩,
     ⟨(.l 12), .len .str (.l 11), none⟩,
     ⟨(.l 13), .bin .lss (.l 10) (.l 12), none⟩])
   (.cond (.l 13)
    (.skip)
    (.exit 0)))
  (.seq (.block 1
    (.seq (.region [⟨(.l 16), .mv (.p 0), none⟩,
       ⟨(.l 17), .mv (.p 3), none⟩,
       ⟨(.l 18), .index (.l 16) (.l 17), none⟩,
       ⟨(.l 19), .call (.c (.fn (.func 158) [] [])) [(.l 18)], none⟩,
       ⟨(.l 20), .un .not (.l 19), none⟩])
     (.cond (.l 20)
      (.seq (.region [⟨(.p 2), .mv (.c (.int .i64 (1))), none⟩])
       (.ret))
      (.skip))))
   (.region [⟨(.l 14), .mv (.p 3), none⟩,
     ⟨(.l 15), .bin .add (.l 14) (.c (.int .i64 (1))), none⟩,
     ⟨(.p 3), .mv (.l 15), none⟩]))
/-- stadion/stadionref05.CheckColumn -/
def b88 : ICode :=
 .seq (.region [⟨(.p 2), .mv (.c (.int .i64 (0))), none⟩])
  (.seq (.seq (.region [⟨(.l 6), .mv (.p 0), none⟩,
      ⟨(.l 7), .len .str (.l 6), none⟩,
      ⟨(.l 8), .mv (.p 1), none⟩,
      ⟨(.l 9), .bin .neq (.l 7) (.l 8), none⟩])
    (.cond (.l 9)
     (.seq (.region [⟨(.p 2), .mv (.c (.int .i64 (2))), none⟩])
      (.ret))
     (.skip)))
   (.seq (.seq (.region [⟨(.p 3), .mv (.c (.int .i64 (0))), none⟩])
     (.block 0
      (.loop b88_0)))
    (.seq (.region [⟨(.p 2), .mv (.c (.int .i64 (0))), none⟩])
     (.ret))))
theorem ft88 : FT 88 = some ⟨21, [0, 1, 4, 5], [.var (.p 2)], b88⟩ := by kernel_rfl

/-- stadion/finish.checkAthlete -/
def b97 : ICode :=
 .seq (.region [⟨(.p 1), .mv (.c (.int .i64 (0))), none⟩])
  (.seq (.region [⟨(.l 3), .mv (.p 0), none⟩,
     ⟨(.l 4), .len .str (.l 3), none⟩,
     ⟨(.l 5), .bin .neq (.l 4) (.c (.int .i64 (1))), none⟩,
     ⟨(.l 6), .mv (.l 5), none⟩,
     ⟨(.l 7), .mv (.p 0), some ((.l 6), false)⟩,
     ⟨(.l 8), .index (.l 7) (.c (.int .i64 (0))), some ((.l 6), false)⟩,
     ⟨(.l 9), .bin .lss (.l 8) (.c (.int .u8 (65))), some ((.l 6), false)⟩,
     ⟨(.l 10), .pick (.l 6) (.c (.bool true)) (.l 9), none⟩,
     ⟨(.l 11), .mv (.l 10), none⟩,
     ⟨(.l 12), .mv (.p 0), some ((.l 11), false)⟩,
     ⟨(.l 13), .index (.l 12) (.c (.int .i64 (0))), some ((.l 11), false)⟩,
     ⟨(.l 14), .bin .gtr (.l 13) (.c (.int .u8 (90))), some ((.l 11), false)⟩,
     ⟨(.l 15), .pick (.l 11) (.c (.bool true)) (.l 14), none⟩,
     ⟨(.l 16), .call (.c (.fn (.func 91) [] [])) [(.l 15), (.c (.int .i64 (8)))], none⟩,
     ⟨(.p 1), .mv (.l 16), none⟩])
   (.ret))
theorem ft97 : FT 97 = some ⟨17, [0, 2], [.var (.p 1)], b97⟩ := by kernel_rfl

def b98_0 : ICode :=
 .seq (.region [⟨(.l 11), .bin .lss (.p 8) (.p 7), none⟩])
  (.seq (.cond (.l 11)
    (.skip)
    (.exit 0))
   (.seq (.block 1
     (.seq (.region [⟨(.l 12), .mv (.p 8), none⟩,
        ⟨(.l 13), .iaddr none 1 (.p 6) (.p 8), none⟩,
        ⟨(.l 14), .load 1 false (.l 13), none⟩,
        ⟨(.p 4), .mv (.l 12), none⟩,
        ⟨(.p 5), .mv (.l 14), none⟩])
      (.seq (.seq (.region [⟨(.l 15), .mv (.p 5), none⟩,
          ⟨(.l 16), .mv (.p 1), none⟩,
          ⟨(.l 17), .call (.c (.fn (.func 162) [] [])) [(.l 15), (.l 16)], none⟩,
          ⟨(.l 18), .un .not (.l 17), none⟩])
        (.cond (.l 18)
         (.exit 1)
         (.skip)))
       (.seq (.region [⟨(.l 19), .mv (.p 4), none⟩,
          ⟨(.p 3), .mv (.l 19), none⟩])
        (.ret)))))
    (.region [⟨(.l 20), .bin .add (.p 8) (.c (.int .i64 (1))), none⟩,
      ⟨(.p 8), .mv (.l 20), none⟩])))
/-- (stadion/finish.Image).find -/
def b98 : ICode :=
 .seq (.region [⟨(.p 2), .box 24 2 (.p 0), none⟩,
    ⟨(.p 3), .mv (.c (.int .i64 (0))), none⟩])
  (.seq (.seq (.skip)
    (.seq (.seq (.region [⟨(.l 7), .faddr 1 (.p 2), none⟩,
        ⟨(.p 6), .load 1 false (.l 7), none⟩,
        ⟨(.p 7), .len .sl (.p 6), none⟩,
        ⟨(.p 8), .mv (.c (.int .i64 (0))), none⟩])
      (.block 0
       (.loop b98_0)))
     (.seq (.region [⟨(.p 3), .mv (.c (.int .i64 (-1))), none⟩])
      (.ret))))
   (.skip))
theorem ft98 : FT 98 = some ⟨21, [0, 1, 2, 4, 5, 6, 8, 9, 10], [.var (.p 3)], b98⟩ := by kernel_rfl

def b115_0 : ICode :=
 .seq (.region [⟨(.l 19), .bin .lss (.p 12) (.p 11), none⟩])
  (.seq (.cond (.l 19)
    (.skip)
    (.exit 2))
   (.seq (.block 3
     (.seq (.region [⟨(.l 20), .mv (.p 12), none⟩,
        ⟨(.p 6), .mv (.l 20), none⟩])
      (.seq (.region [⟨(.l 21), .mv (.p 5), none⟩,
         ⟨(.l 22), .mv (.p 6), none⟩,
         ⟨(.l 23), .index (.l 21) (.l 22), none⟩,
         ⟨(.p 7), .mv (.l 23), none⟩])
       (.seq (.region [⟨(.l 24), .mv (.p 7), none⟩,
          ⟨(.l 25), .bin .geq (.l 24) (.c (.int .u8 (65))), none⟩,
          ⟨(.l 26), .mv (.l 25), none⟩,
          ⟨(.l 27), .mv (.p 7), some ((.l 26), true)⟩,
          ⟨(.l 28), .bin .leq (.l 27) (.c (.int .u8 (90))), some ((.l 26), true)⟩,
          ⟨(.l 29), .pick (.l 26) (.l 28) (.c (.bool false)), none⟩,
          ⟨(.l 30), .mv (.l 29), none⟩,
          ⟨(.l 31), .mv (.p 7), some ((.l 30), true)⟩,
          ⟨(.l 32), .bin .sub (.l 31) (.c (.int .u8 (65))), some ((.l 30), true)⟩,
          ⟨(.l 33), .iaddr (some 26) 1 (.p 3) (.l 32), some ((.l 30), true)⟩,
          ⟨(.l 34), .load 1 false (.l 33), some ((.l 30), true)⟩,
          ⟨(.l 35), .bin .eql (.l 34) (.c (.int .i64 (0))), some ((.l 30), true)⟩,
          ⟨(.l 36), .pick (.l 30) (.l 35) (.c (.bool false)), none⟩])
        (.cond (.l 36)
         (.region [⟨(.l 37), .mv (.p 7), none⟩,
           ⟨(.l 38), .bin .sub (.l 37) (.c (.int .u8 (65))), none⟩,
           ⟨(.l 39), .mv (.p 4), none⟩,
           ⟨(.l 40), .bin .add (.l 39) (.c (.int .i64 (1))), none⟩,
           ⟨(.l 41), .iaddr (some 26) 1 (.p 3) (.l 38), none⟩,
           ⟨.no, .store 1 (.l 41) (.l 40), none⟩])
         (.skip))))))
    (.region [⟨(.l 42), .bin .add (.p 12) (.c (.int .i64 (1))), none⟩,
      ⟨(.p 12), .mv (.l 42), none⟩])))
def b115_1 : ICode :=
 .seq (.region [⟨(.l 12), .bin .lss (.p 10) (.p 9), none⟩])
  (.seq (.cond (.l 12)
    (.skip)
    (.exit 0))
   (.seq (.block 1
     (.seq (.region [⟨(.l 13), .mv (.p 10), none⟩,
        ⟨(.l 14), .iaddr none 1 (.p 8) (.p 10), none⟩,
        ⟨(.l 15), .load 1 false (.l 14), none⟩,
        ⟨(.p 4), .mv (.l 13), none⟩,
        ⟨(.p 5), .mv (.l 15), none⟩])
      (.seq (.region [⟨(.l 16), .mv (.p 5), none⟩,
         ⟨(.p 11), .len .str (.l 16), none⟩,
         ⟨(.p 12), .mv (.c (.int .i64 (0))), none⟩])
       (.block 2
        (.loop b115_0)))))
    (.region [⟨(.l 43), .bin .add (.p 10) (.c (.int .i64 (1))), none⟩,
      ⟨(.p 10), .mv (.l 43), none⟩])))
/-- stadion/finish.torsos -/
def b115 : ICode :=
 .seq (.region [⟨(.p 1), .box 24 2 (.p 0), none⟩,
    ⟨(.p 2), .alloc 189 [.int .i64 (0), .int .i64 (0), .int .i64 (0), .int .i64 (0), .int .i64 (0), .int .i64 (0), .int .i64 (0), .int .i64 (0), .int .i64 (0), .int .i64 (0), .int .i64 (0), .int .i64 (0), .int .i64 (0), .int .i64 (0), .int .i64 (0), .int .i64 (0), .int .i64 (0), .int .i64 (0), .int .i64 (0), .int .i64 (0), .int .i64 (0), .int .i64 (0), .int .i64 (0), .int .i64 (0), .int .i64 (0), .int .i64 (0)], none⟩])
  (.seq (.region [⟨(.p 3), .alloc 189 [.int .i64 (0), .int .i64 (0), .int .i64 (0), .int .i64 (0), .int .i64 (0), .int .i64 (0), .int .i64 (0), .int .i64 (0), .int .i64 (0), .int .i64 (0), .int .i64 (0), .int .i64 (0), .int .i64 (0), .int .i64 (0), .int .i64 (0), .int .i64 (0), .int .i64 (0), .int .i64 (0), .int .i64 (0), .int .i64 (0), .int .i64 (0), .int .i64 (0), .int .i64 (0), .int .i64 (0), .int .i64 (0), .int .i64 (0)], none⟩])
   (.seq (.seq (.region [⟨(.l 8), .faddr 1 (.p 1), none⟩,
       ⟨(.p 8), .load 1 false (.l 8), none⟩,
       ⟨(.p 9), .len .sl (.p 8), none⟩,
       ⟨(.p 10), .mv (.c (.int .i64 (0))), none⟩])
     (.block 0
      (.loop b115_1)))
    (.seq (.region [⟨(.l 44), .load 26 true (.p 3), none⟩,
       ⟨.no, .store 26 (.p 2) (.l 44), none⟩])
     (.ret))))
theorem ft115 : FT 115 = some ⟨45, [0, 1, 2, 3, 4, 5, 6, 7, 9, 10, 11, 17, 18], [.cell 26 true (.p 2)], b115⟩ := by kernel_rfl

def b136_0 : ICode :=
 .seq (.region [⟨(.l 8), .bin .lss (.p 7) (.c (.int .i64 (26))), none⟩])
  (.seq (.cond (.l 8)
    (.skip)
    (.exit 0))
   (.seq (.block 1
     (.seq (.region [⟨(.l 9), .mv (.p 7), none⟩,
        ⟨(.l 10), .indexArr 26 1 false (.p 6) (.p 7), none⟩,
        ⟨(.p 4), .mv (.l 9), none⟩,
        ⟨(.p 5), .mv (.l 10), none⟩])
      (.seq (.region [⟨(.l 11), .mv (.p 5), none⟩,
         ⟨(.l 12), .bin .gtr (.l 11) (.c (.int .i64 (0))), none⟩])
       (.cond (.l 12)
        (.region [⟨(.l 13), .mv (.p 3), none⟩,
          ⟨(.l 14), .mv (.p 4), none⟩,
          ⟨(.l 15), .bin .add (.c (.int .i64 (65))) (.l 14), none⟩,
          ⟨(.l 16), .convInt .i32 (.l 15), none⟩,
          ⟨(.l 17), .convRune (.l 16), none⟩,
          ⟨(.l 18), .bslice 9 1 1 [.str []] [(0, 1, (.l 17))], none⟩,
          ⟨(.l 19), .append 9 1 16 (.l 13) (.l 18), none⟩,
          ⟨(.p 3), .mv (.l 19), none⟩])
        (.skip)))))
    (.region [⟨(.l 20), .bin .add (.p 7) (.c (.int .i64 (1))), none⟩,
      ⟨(.p 7), .mv (.l 20), none⟩])))
/-- stadion/finish.names -/
def b136 : ICode :=
 .seq (.region [⟨(.p 1), .box 189 26 (.p 0), none⟩,
    ⟨(.p 2), .mv (.c (.nilsl)), none⟩])
  (.seq (.region [⟨(.p 3), .mv (.c (.nilsl)), none⟩])
   (.seq (.seq (.region [⟨(.p 6), .load 26 true (.p 1), none⟩,
       ⟨(.p 7), .mv (.c (.int .i64 (0))), none⟩])
     (.block 0
      (.loop b136_0)))
    (.seq (.region [⟨(.l 21), .mv (.p 3), none⟩,
       ⟨(.p 2), .mv (.l 21), none⟩])
     (.ret))))
theorem ft136 : FT 136 = some ⟨22, [0, 1, 2, 3, 4, 5, 6, 7], [.var (.p 2)], b136⟩ := by kernel_rfl

def b150_0 : ICode :=
 .seq (.seq (.region [⟨(.l 34), .mv (.p 6), none⟩,
     ⟨(.l 35), .mv (.p 5), none⟩,
     ⟨(.l 36), .len .sl (.l 35), none⟩,
     ⟨(.l 37), .bin .lss (.l 34) (.l 36), none⟩])
   (.cond (.l 37)
    (.skip)
    (.exit 0)))
  (.block 1
   (.draw [(⟨(.l 38), .mv (.p 6), none⟩, []),
     (⟨(.l 39), .mv (.p 5), none⟩, [0]),
     (⟨(.l 40), .mv (.p 6), none⟩, [0, 1]),
     (⟨(.l 41), .slice .sl 1 (.l 39) (some (.l 40)) none none, none⟩, [0]),
     (⟨(.l 42), .mv (.p 5), none⟩, [0, 1, 2, 3]),
     (⟨(.l 43), .mv (.p 6), none⟩, [0, 1, 2, 3, 4]),
     (⟨(.l 44), .slice .sl 1 (.l 42) none (some (.l 43)) none, none⟩, [0, 1, 2, 3]),
     (⟨(.l 45), .copy 1 (.l 41) (.l 44), none⟩, [0]),
     (⟨(.l 46), .bin .add (.l 38) (.l 45), none⟩, []),
     (⟨(.p 6), .mv (.l 46), none⟩, [])]))
/-- slices.Repeat[[]string,string] -/
def b150 : ICode :=
 .seq (.region [⟨(.p 2), .mv (.c (.nilsl)), none⟩])
  (.seq (.seq (.region [⟨(.l 9), .mv (.p 1), none⟩,
      ⟨(.l 10), .bin .lss (.l 9) (.c (.int .i64 (0))), none⟩])
    (.cond (.l 10)
     (.bad)
     (.skip)))
   (.seq (.region [⟨(.l 13), .mv (.p 0), none⟩,
      ⟨(.l 14), .len .sl (.l 13), none⟩,
      ⟨(.l 15), .convInt .u64 (.l 14), none⟩,
      ⟨(.l 16), .mv (.p 1), none⟩,
      ⟨(.l 17), .convInt .u64 (.l 16), none⟩,
      ⟨(.l 18), .call (.c (.fn (.func 203) [] [])) [(.l 15), (.l 17)], none⟩,
      ⟨(.l 12), .mv (.l 18), none⟩,
      ⟨(.l 19), .extract 0 (.l 12), none⟩,
      ⟨(.l 20), .extract 1 (.l 12), none⟩,
      ⟨(.p 3), .mv (.l 19), none⟩,
      ⟨(.p 4), .mv (.l 20), none⟩])
    (.seq (.seq (.region [⟨(.l 21), .mv (.p 3), none⟩,
        ⟨(.l 22), .bin .gtr (.l 21) (.c (.int .u64 (0))), none⟩,
        ⟨(.l 23), .mv (.l 22), none⟩,
        ⟨(.l 24), .mv (.p 4), some ((.l 23), false)⟩,
        ⟨(.l 25), .bin .gtr (.l 24) (.c (.int .u64 (9223372036854775807))), some ((.l 23), false)⟩,
        ⟨(.l 26), .pick (.l 23) (.c (.bool true)) (.l 25), none⟩])
      (.cond (.l 26)
       (.bad)
       (.skip)))
     (.seq (.region [⟨(.l 28), .mv (.p 4), none⟩,
        ⟨(.l 29), .convInt .i64 (.l 28), none⟩,
        ⟨(.l 30), .mkslice 9 1 16 [.str []] (.l 29) (.l 29), none⟩,
        ⟨(.p 5), .mv (.l 30), none⟩])
      (.seq (.region [⟨(.l 31), .mv (.p 5), none⟩,
         ⟨(.l 32), .mv (.p 0), none⟩,
         ⟨(.l 33), .copy 1 (.l 31) (.l 32), none⟩,
         ⟨(.p 6), .mv (.l 33), none⟩])
       (.seq (.block 0
         (.loop b150_0))
        (.seq (.region [⟨(.l 47), .mv (.p 5), none⟩,
           ⟨(.p 2), .mv (.l 47), none⟩])
         (.ret))))))))
theorem ft150 : FT 150 = some ⟨48, [0, 1, 4, 5, 6, 7, 8], [.var (.p 2)], b150⟩ := by kernel_rfl

/-- stadion/finish.letters -/
def b153 : ICode :=
 .seq (.region [⟨(.p 1), .mv (.c (.bool false)), none⟩])
  (.seq (.region [⟨(.l 3), .mv (.p 0), none⟩,
     ⟨(.l 4), .call (.c (.fn (.func 204) [] [])) [(.l 3), (.c (.fn (.func 205) [] []))], none⟩,
     ⟨(.l 5), .un .not (.l 4), none⟩,
     ⟨(.p 1), .mv (.l 5), none⟩])
   (.ret))
theorem ft153 : FT 153 = some ⟨6, [0, 2], [.var (.p 1)], b153⟩ := by kernel_rfl

/-- stadion/finish.reversed[string] -/
def b154 : ICode :=
 .seq (.region [⟨(.p 1), .mv (.c (.nilsl)), none⟩])
  (.seq (.region [⟨(.l 4), .mv (.p 0), none⟩,
     ⟨(.l 5), .call (.c (.fn (.func 206) [] [])) [(.l 4)], none⟩,
     ⟨(.p 2), .mv (.l 5), none⟩])
   (.seq (.region [⟨(.l 6), .mv (.p 2), none⟩,
      ⟨(.l 7), .call (.c (.fn (.func 207) [] [])) [(.l 6)], none⟩])
    (.seq (.region [⟨(.l 8), .mv (.p 2), none⟩,
       ⟨(.p 1), .mv (.l 8), none⟩])
     (.ret))))
theorem ft154 : FT 154 = some ⟨9, [0, 2, 3], [.var (.p 1)], b154⟩ := by kernel_rfl

/-- stadion/stadionref05.pixel -/
def b158 : ICode :=
 .seq (.region [⟨(.p 1), .mv (.c (.bool false)), none⟩])
  (.seq (.region [⟨(.l 3), .mv (.p 0), none⟩,
     ⟨(.l 4), .bin .eql (.l 3) (.c (.int .u8 (46))), none⟩,
     ⟨(.l 5), .mv (.l 4), none⟩,
     ⟨(.l 6), .mv (.p 0), some ((.l 5), false)⟩,
     ⟨(.l 7), .bin .geq (.l 6) (.c (.int .u8 (97))), some ((.l 5), false)⟩,
     ⟨(.l 8), .mv (.l 7), some ((.l 5), false)⟩,
     ⟨(.l 9), .mv (.p 0), some ((.l 8), true)⟩,
     ⟨(.l 10), .bin .leq (.l 9) (.c (.int .u8 (122))), some ((.l 8), true)⟩,
     ⟨(.l 11), .pick (.l 8) (.l 10) (.c (.bool false)), some ((.l 5), false)⟩,
     ⟨(.l 12), .pick (.l 5) (.c (.bool true)) (.l 11), none⟩,
     ⟨(.l 13), .mv (.l 12), none⟩,
     ⟨(.l 14), .mv (.p 0), some ((.l 13), false)⟩,
     ⟨(.l 15), .bin .geq (.l 14) (.c (.int .u8 (65))), some ((.l 13), false)⟩,
     ⟨(.l 16), .mv (.l 15), some ((.l 13), false)⟩,
     ⟨(.l 17), .mv (.p 0), some ((.l 16), true)⟩,
     ⟨(.l 18), .bin .leq (.l 17) (.c (.int .u8 (90))), some ((.l 16), true)⟩,
     ⟨(.l 19), .pick (.l 16) (.l 18) (.c (.bool false)), some ((.l 13), false)⟩,
     ⟨(.l 20), .pick (.l 13) (.c (.bool true)) (.l 19), none⟩,
     ⟨(.p 1), .mv (.l 20), none⟩])
   (.ret))
theorem ft158 : FT 158 = some ⟨21, [0, 2], [.var (.p 1)], b158⟩ := by kernel_rfl

/-- strings.Contains -/
def b162 : ICode :=
 .seq (.region [⟨(.p 2), .mv (.c (.bool false)), none⟩])
  (.seq (.region [⟨(.l 5), .mv (.p 0), none⟩,
     ⟨(.l 6), .mv (.p 1), none⟩,
     ⟨(.l 7), .call (.c (.fn (.func 213) [] [])) [(.l 5), (.l 6)], none⟩,
     ⟨(.l 8), .bin .geq (.l 7) (.c (.int .i64 (0))), none⟩,
     ⟨(.p 2), .mv (.l 8), none⟩])
   (.ret))
theorem ft162 : FT 162 = some ⟨9, [0, 1, 4], [.var (.p 2)], b162⟩ := by kernel_rfl

/-- math/bits.Mul -/
def b203 : ICode :=
 .seq (.region [⟨(.p 2), .mv (.c (.int .u64 (0))), none⟩,
    ⟨(.p 3), .mv (.c (.int .u64 (0))), none⟩])
  (.seq (.cond (.c (.bool false))
    (.seq (.region [⟨(.l 11), .mv (.p 0), none⟩,
       ⟨(.l 12), .convInt .u32 (.l 11), none⟩,
       ⟨(.l 13), .mv (.p 1), none⟩,
       ⟨(.l 14), .convInt .u32 (.l 13), none⟩,
       ⟨(.l 15), .call (.c (.fn (.func 264) [] [])) [(.l 12), (.l 14)], none⟩,
       ⟨(.l 10), .mv (.l 15), none⟩,
       ⟨(.l 16), .extract 0 (.l 10), none⟩,
       ⟨(.l 17), .extract 1 (.l 10), none⟩,
       ⟨(.p 4), .mv (.l 16), none⟩,
       ⟨(.p 5), .mv (.l 17), none⟩])
     (.seq (.region [⟨(.l 18), .mv (.p 4), none⟩,
        ⟨(.l 19), .convInt .u64 (.l 18), none⟩,
        ⟨(.l 20), .mv (.p 5), none⟩,
        ⟨(.l 21), .convInt .u64 (.l 20), none⟩,
        ⟨(.p 2), .mv (.l 19), none⟩,
        ⟨(.p 3), .mv (.l 21), none⟩])
      (.ret)))
    (.skip))
   (.seq (.region [⟨(.l 23), .mv (.p 0), none⟩,
      ⟨(.l 24), .mv (.p 1), none⟩,
      ⟨(.l 25), .call (.c (.fn (.func 259) [] [])) [(.l 23), (.l 24)], none⟩,
      ⟨(.l 22), .mv (.l 25), none⟩,
      ⟨(.l 26), .extract 0 (.l 22), none⟩,
      ⟨(.l 27), .extract 1 (.l 22), none⟩,
      ⟨(.p 6), .mv (.l 26), none⟩,
      ⟨(.p 7), .mv (.l 27), none⟩])
    (.seq (.region [⟨(.l 28), .mv (.p 6), none⟩,
       ⟨(.l 29), .mv (.p 7), none⟩,
       ⟨(.p 2), .mv (.l 28), none⟩,
       ⟨(.p 3), .mv (.l 29), none⟩])
     (.ret))))
theorem ft203 : FT 203 = some ⟨30, [0, 1, 4, 5, 6, 7, 8, 9], [.var (.p 2), .var (.p 3)], b203⟩ := by kernel_rfl

/-- strings.ContainsFunc -/
def b204 : ICode :=
 .seq (.region [⟨(.p 2), .mv (.c (.bool false)), none⟩])
  (.seq (.region [⟨(.l 5), .mv (.p 0), none⟩,
     ⟨(.l 6), .mv (.p 1), none⟩,
     ⟨(.l 7), .call (.c (.fn (.func 265) [] [])) [(.l 5), (.l 6)], none⟩,
     ⟨(.l 8), .bin .geq (.l 7) (.c (.int .i64 (0))), none⟩,
     ⟨(.p 2), .mv (.l 8), none⟩])
   (.ret))
theorem ft204 : FT 204 = some ⟨9, [0, 1, 4], [.var (.p 2)], b204⟩ := by kernel_rfl

/-- stadion/finish.letters$1 -/
def b205 : ICode :=
 .seq (.region [⟨(.p 1), .mv (.c (.bool false)), none⟩])
  (.seq (.region [⟨(.l 3), .mv (.p 0), none⟩,
     ⟨(.l 4), .bin .neq (.l 3) (.c (.int .i32 (46))), none⟩,
     ⟨(.l 5), .mv (.l 4), none⟩,
     ⟨(.l 6), .mv (.p 0), some ((.l 5), true)⟩,
     ⟨(.l 7), .bin .lss (.l 6) (.c (.int .i32 (65))), some ((.l 5), true)⟩,
     ⟨(.l 8), .mv (.l 7), some ((.l 5), true)⟩,
     ⟨(.l 9), .mv (.p 0), some ((.l 8), false)⟩,
     ⟨(.l 10), .bin .gtr (.l 9) (.c (.int .i32 (90))), some ((.l 8), false)⟩,
     ⟨(.l 11), .pick (.l 8) (.c (.bool true)) (.l 10), some ((.l 5), true)⟩,
     ⟨(.l 12), .pick (.l 5) (.l 11) (.c (.bool false)), none⟩,
     ⟨(.l 13), .mv (.l 12), none⟩,
     ⟨(.l 14), .mv (.p 0), some ((.l 13), true)⟩,
     ⟨(.l 15), .bin .lss (.l 14) (.c (.int .i32 (97))), some ((.l 13), true)⟩,
     ⟨(.l 16), .mv (.l 15), some ((.l 13), true)⟩,
     ⟨(.l 17), .mv (.p 0), some ((.l 16), false)⟩,
     ⟨(.l 18), .bin .gtr (.l 17) (.c (.int .i32 (122))), some ((.l 16), false)⟩,
     ⟨(.l 19), .pick (.l 16) (.c (.bool true)) (.l 18), some ((.l 13), true)⟩,
     ⟨(.l 20), .pick (.l 13) (.l 19) (.c (.bool false)), none⟩,
     ⟨(.p 1), .mv (.l 20), none⟩])
   (.ret))
theorem ft205 : FT 205 = some ⟨21, [0, 2], [.var (.p 1)], b205⟩ := by kernel_rfl

/-- slices.Clone[[]string,string] -/
def b206 : ICode :=
 .seq (.region [⟨(.p 1), .mv (.c (.nilsl)), none⟩])
  (.seq (.seq (.region [⟨(.l 3), .mv (.p 0), none⟩,
      ⟨(.l 4), .eq false (.ref .slice) (.l 3) (.c (.nilsl)), none⟩])
    (.cond (.l 4)
     (.seq (.region [⟨(.p 1), .mv (.c (.nilsl)), none⟩])
      (.ret))
     (.skip)))
   (.seq (.region [⟨(.l 5), .bslice 9 0 1 [.str []] [], none⟩,
      ⟨(.l 6), .mv (.p 0), none⟩,
      ⟨(.l 7), .append 9 1 16 (.l 5) (.l 6), none⟩,
      ⟨(.p 1), .mv (.l 7), none⟩])
    (.ret)))
theorem ft206 : FT 206 = some ⟨8, [0, 2], [.var (.p 1)], b206⟩ := by kernel_rfl

def b207_0 : ICode :=
 .seq (.seq (.region [⟨(.l 7), .mv (.p 1), none⟩,
     ⟨(.l 8), .mv (.p 2), none⟩,
     ⟨(.l 9), .bin .lss (.l 7) (.l 8), none⟩])
   (.cond (.l 9)
    (.skip)
    (.exit 0)))
  (.seq (.block 1
    (.draw [(⟨(.l 14), .mv (.p 0), none⟩, []),
      (⟨(.l 15), .mv (.p 1), none⟩, [0]),
      (⟨(.l 16), .mv (.p 0), none⟩, [0, 1]),
      (⟨(.l 17), .mv (.p 2), none⟩, [0, 1, 2]),
      (⟨(.l 18), .mv (.p 0), none⟩, [0, 1, 2, 3]),
      (⟨(.l 19), .mv (.p 2), none⟩, [0, 1, 2, 3, 4]),
      (⟨(.l 20), .iaddr none 1 (.l 18) (.l 19), none⟩, [0, 1, 2, 3]),
      (⟨(.l 21), .load 1 false (.l 20), none⟩, [0, 1, 2, 3]),
      (⟨(.l 22), .mv (.p 0), none⟩, [0, 1, 2, 3, 4, 5, 6, 7]),
      (⟨(.l 23), .mv (.p 1), none⟩, [0, 1, 2, 3, 4, 5, 6, 7, 8]),
      (⟨(.l 24), .iaddr none 1 (.l 22) (.l 23), none⟩, [0, 1, 2, 3, 4, 5, 6, 7]),
      (⟨(.l 25), .load 1 false (.l 24), none⟩, [0, 1, 2, 3, 4, 5, 6, 7]),
      (⟨(.l 26), .iaddr none 1 (.l 14) (.l 15), none⟩, [2, 3]),
      (⟨.no, .store 1 (.l 26) (.l 21), none⟩, [2, 3]),
      (⟨(.l 27), .iaddr none 1 (.l 16) (.l 17), none⟩, []),
      (⟨.no, .store 1 (.l 27) (.l 25), none⟩, [])]))
   (.region [⟨(.l 10), .mv (.p 1), none⟩,
     ⟨(.l 11), .bin .add (.l 10) (.c (.int .i64 (1))), none⟩,
     ⟨(.l 12), .mv (.p 2), none⟩,
     ⟨(.l 13), .bin .sub (.l 12) (.c (.int .i64 (1))), none⟩,
     ⟨(.p 1), .mv (.l 11), none⟩,
     ⟨(.p 2), .mv (.l 13), none⟩]))
/-- slices.Reverse[[]string,string] -/
def b207 : ICode :=
 .seq (.region [⟨(.l 4), .mv (.p 0), none⟩,
    ⟨(.l 5), .len .sl (.l 4), none⟩,
    ⟨(.l 6), .bin .sub (.l 5) (.c (.int .i64 (1))), none⟩,
    ⟨(.p 1), .mv (.c (.int .i64 (0))), none⟩,
    ⟨(.p 2), .mv (.l 6), none⟩])
  (.block 0
   (.loop b207_0))
theorem ft207 : FT 207 = some ⟨28, [0, 2, 3], [], b207⟩ := by kernel_rfl

/-- strings.Index -/
def b213 : ICode :=
 .seq (.region [⟨(.p 2), .mv (.c (.int .i64 (0))), none⟩])
  (.seq (.region [⟨(.l 5), .mv (.p 0), none⟩,
     ⟨(.l 6), .mv (.p 1), none⟩,
     ⟨(.l 7), .call (.c (.fn (.func 270) [] [])) [(.l 5), (.l 6)], none⟩,
     ⟨(.p 2), .mv (.l 7), none⟩])
   (.ret))
theorem ft213 : FT 213 = some ⟨8, [0, 1, 4], [.var (.p 2)], b213⟩ := by kernel_rfl

/-- math/bits.Mul64 -/
def b259 : ICode :=
 .seq (.region [⟨(.p 2), .mv (.c (.int .u64 (0))), none⟩,
    ⟨(.p 3), .mv (.c (.int .u64 (0))), none⟩])
  (.seq (.region [⟨(.l 14), .mv (.p 0), none⟩,
     ⟨(.l 15), .bin .and (.l 14) (.c (.int .u64 (4294967295))), none⟩,
     ⟨(.p 4), .mv (.l 15), none⟩])
   (.seq (.region [⟨(.l 16), .mv (.p 0), none⟩,
      ⟨(.l 17), .bin .shr (.l 16) (.c (.int .u64 (32))), none⟩,
      ⟨(.p 5), .mv (.l 17), none⟩])
    (.seq (.region [⟨(.l 18), .mv (.p 1), none⟩,
       ⟨(.l 19), .bin .and (.l 18) (.c (.int .u64 (4294967295))), none⟩,
       ⟨(.p 6), .mv (.l 19), none⟩])
     (.seq (.region [⟨(.l 20), .mv (.p 1), none⟩,
        ⟨(.l 21), .bin .shr (.l 20) (.c (.int .u64 (32))), none⟩,
        ⟨(.p 7), .mv (.l 21), none⟩])
      (.seq (.region [⟨(.l 22), .mv (.p 4), none⟩,
         ⟨(.l 23), .mv (.p 6), none⟩,
         ⟨(.l 24), .bin .mul (.l 22) (.l 23), none⟩,
         ⟨(.p 8), .mv (.l 24), none⟩])
       (.seq (.region [⟨(.l 25), .mv (.p 5), none⟩,
          ⟨(.l 26), .mv (.p 6), none⟩,
          ⟨(.l 27), .bin .mul (.l 25) (.l 26), none⟩,
          ⟨(.l 28), .mv (.p 8), none⟩,
          ⟨(.l 29), .bin .shr (.l 28) (.c (.int .u64 (32))), none⟩,
          ⟨(.l 30), .bin .add (.l 27) (.l 29), none⟩,
          ⟨(.p 9), .mv (.l 30), none⟩])
        (.seq (.region [⟨(.l 31), .mv (.p 9), none⟩,
           ⟨(.l 32), .bin .and (.l 31) (.c (.int .u64 (4294967295))), none⟩,
           ⟨(.p 10), .mv (.l 32), none⟩])
         (.seq (.region [⟨(.l 33), .mv (.p 9), none⟩,
            ⟨(.l 34), .bin .shr (.l 33) (.c (.int .u64 (32))), none⟩,
            ⟨(.p 11), .mv (.l 34), none⟩])
          (.seq (.region [⟨(.l 35), .mv (.p 10), none⟩,
             ⟨(.l 36), .mv (.p 4), none⟩,
             ⟨(.l 37), .mv (.p 7), none⟩,
             ⟨(.l 38), .bin .mul (.l 36) (.l 37), none⟩,
             ⟨(.l 39), .bin .add (.l 35) (.l 38), none⟩,
             ⟨(.p 10), .mv (.l 39), none⟩])
           (.seq (.region [⟨(.l 40), .mv (.p 5), none⟩,
              ⟨(.l 41), .mv (.p 7), none⟩,
              ⟨(.l 42), .bin .mul (.l 40) (.l 41), none⟩,
              ⟨(.l 43), .mv (.p 11), none⟩,
              ⟨(.l 44), .bin .add (.l 42) (.l 43), none⟩,
              ⟨(.l 45), .mv (.p 10), none⟩,
              ⟨(.l 46), .bin .shr (.l 45) (.c (.int .u64 (32))), none⟩,
              ⟨(.l 47), .bin .add (.l 44) (.l 46), none⟩,
              ⟨(.p 2), .mv (.l 47), none⟩])
            (.seq (.region [⟨(.l 48), .mv (.p 0), none⟩,
               ⟨(.l 49), .mv (.p 1), none⟩,
               ⟨(.l 50), .bin .mul (.l 48) (.l 49), none⟩,
               ⟨(.p 3), .mv (.l 50), none⟩])
             (.ret))))))))))))
theorem ft259 : FT 259 = some ⟨51, [0, 1, 4, 5, 6, 7, 8, 9, 10, 11, 12, 13], [.var (.p 2), .var (.p 3)], b259⟩ := by kernel_rfl

/-- strings.IndexFunc -/
def b265 : ICode :=
 .seq (.region [⟨(.p 2), .mv (.c (.int .i64 (0))), none⟩])
  (.seq (.region [⟨(.l 5), .mv (.p 0), none⟩,
     ⟨(.l 6), .mv (.p 1), none⟩,
     ⟨(.l 7), .call (.c (.fn (.func 311) [] [])) [(.l 5), (.l 6), (.c (.bool true))], none⟩,
     ⟨(.p 2), .mv (.l 7), none⟩])
   (.ret))
theorem ft265 : FT 265 = some ⟨8, [0, 1, 4], [.var (.p 2)], b265⟩ := by kernel_rfl

def b270_0 : ICode :=
 .seq (.seq (.region [⟨(.l 57), .mv (.p 6), none⟩,
     ⟨(.l 58), .mv (.p 7), none⟩,
     ⟨(.l 59), .bin .lss (.l 57) (.l 58), none⟩])
   (.cond (.l 59)
    (.skip)
    (.exit 1)))
  (.block 2
   (.seq (.seq (.region [⟨(.l 60), .mv (.p 0), none⟩,
       ⟨(.l 61), .mv (.p 6), none⟩,
       ⟨(.l 62), .index (.l 60) (.l 61), none⟩,
       ⟨(.l 63), .mv (.p 4), none⟩,
       ⟨(.l 64), .bin .neq (.l 62) (.l 63), none⟩])
     (.cond (.l 64)
      (.seq (.region [⟨(.l 65), .mv (.p 0), none⟩,
         ⟨(.l 66), .mv (.p 6), none⟩,
         ⟨(.l 67), .bin .add (.l 66) (.c (.int .i64 (1))), none⟩,
         ⟨(.l 68), .mv (.p 7), none⟩,
         ⟨(.l 69), .slice .str 1 (.l 65) (some (.l 67)) (some (.l 68)) none, none⟩,
         ⟨(.l 70), .mv (.p 4), none⟩,
         ⟨(.l 71), .call (.c (.fn (.func 316) [] [])) [(.l 69), (.l 70)], none⟩,
         ⟨(.p 9), .mv (.l 71), none⟩])
       (.seq (.seq (.region [⟨(.l 72), .mv (.p 9), none⟩,
           ⟨(.l 73), .bin .lss (.l 72) (.c (.int .i64 (0))), none⟩])
         (.cond (.l 73)
          (.seq (.region [⟨(.p 2), .mv (.c (.int .i64 (-1))), none⟩])
           (.ret))
          (.skip)))
        (.region [⟨(.l 74), .mv (.p 6), none⟩,
          ⟨(.l 75), .mv (.p 9), none⟩,
          ⟨(.l 76), .bin .add (.l 75) (.c (.int .i64 (1))), none⟩,
          ⟨(.l 77), .bin .add (.l 74) (.l 76), none⟩,
          ⟨(.p 6), .mv (.l 77), none⟩])))
      (.skip)))
    (.seq (.seq (.region [⟨(.l 78), .mv (.p 0), none⟩,
        ⟨(.l 79), .mv (.p 6), none⟩,
        ⟨(.l 80), .bin .add (.l 79) (.c (.int .i64 (1))), none⟩,
        ⟨(.l 81), .index (.l 78) (.l 80), none⟩,
        ⟨(.l 82), .mv (.p 5), none⟩,
        ⟨(.l 83), .bin .eql (.l 81) (.l 82), none⟩,
        ⟨(.l 84), .mv (.l 83), none⟩,
        ⟨(.l 85), .mv (.p 0), some ((.l 84), true)⟩,
        ⟨(.l 86), .mv (.p 6), some ((.l 84), true)⟩,
        ⟨(.l 87), .mv (.p 6), some ((.l 84), true)⟩,
        ⟨(.l 88), .mv (.p 3), some ((.l 84), true)⟩,
        ⟨(.l 89), .bin .add (.l 87) (.l 88), some ((.l 84), true)⟩,
        ⟨(.l 90), .slice .str 1 (.l 85) (some (.l 86)) (some (.l 89)) none, some ((.l 84), true)⟩,
        ⟨(.l 91), .mv (.p 1), some ((.l 84), true)⟩,
        ⟨(.l 92), .bin .eql (.l 90) (.l 91), some ((.l 84), true)⟩,
        ⟨(.l 93), .pick (.l 84) (.l 92) (.c (.bool false)), none⟩])
      (.cond (.l 93)
       (.seq (.region [⟨(.l 94), .mv (.p 6), none⟩,
          ⟨(.p 2), .mv (.l 94), none⟩])
        (.ret))
       (.skip)))
     (.seq (.region [⟨(.l 95), .mv (.p 6), none⟩,
        ⟨(.l 96), .bin .add (.l 95) (.c (.int .i64 (1))), none⟩,
        ⟨(.p 6), .mv (.l 96), none⟩])
      (.seq (.region [⟨(.l 97), .mv (.p 8), none⟩,
         ⟨(.l 98), .bin .add (.l 97) (.c (.int .i64 (1))), none⟩,
         ⟨(.p 8), .mv (.l 98), none⟩])
       (.seq (.bad)
        (.cond (.l 107)
         (.seq (.region [⟨(.l 108), .mv (.p 0), none⟩,
            ⟨(.l 109), .mv (.p 6), none⟩,
            ⟨(.l 110), .slice .str 1 (.l 108) (some (.l 109)) none none, none⟩,
            ⟨(.l 111), .mv (.p 1), none⟩,
            ⟨(.l 112), .call (.c (.fn (.func 317) [] [])) [(.l 110), (.l 111)], none⟩,
            ⟨(.p 10), .mv (.l 112), none⟩])
          (.seq (.seq (.region [⟨(.l 113), .mv (.p 10), none⟩,
              ⟨(.l 114), .bin .geq (.l 113) (.c (.int .i64 (0))), none⟩])
            (.cond (.l 114)
             (.seq (.region [⟨(.l 115), .mv (.p 10), none⟩,
                ⟨(.l 116), .mv (.p 6), none⟩,
                ⟨(.l 117), .bin .add (.l 115) (.l 116), none⟩,
                ⟨(.p 2), .mv (.l 117), none⟩])
              (.ret))
             (.skip)))
           (.seq (.region [⟨(.p 2), .mv (.c (.int .i64 (-1))), none⟩])
            (.ret))))
         (.seq (.bad)
          (.cond (.l 132)
           (.seq (.region [⟨(.l 133), .mv (.p 0), none⟩,
              ⟨(.l 134), .mv (.p 6), none⟩,
              ⟨(.l 135), .slice .str 1 (.l 133) (some (.l 134)) none none, none⟩,
              ⟨(.l 136), .mv (.p 1), none⟩,
              ⟨(.l 137), .call (.c (.fn (.func 319) [] [])) [(.l 135), (.l 136)], none⟩,
              ⟨(.p 11), .mv (.l 137), none⟩])
            (.seq (.seq (.region [⟨(.l 138), .mv (.p 11), none⟩,
                ⟨(.l 139), .bin .lss (.l 138) (.c (.int .i64 (0))), none⟩])
              (.cond (.l 139)
               (.seq (.region [⟨(.p 2), .mv (.c (.int .i64 (-1))), none⟩])
                (.ret))
               (.skip)))
             (.seq (.region [⟨(.l 140), .mv (.p 6), none⟩,
                ⟨(.l 141), .mv (.p 11), none⟩,
                ⟨(.l 142), .bin .add (.l 140) (.l 141), none⟩,
                ⟨(.p 2), .mv (.l 142), none⟩])
              (.ret))))
           (.skip))))))))))
/-- internal/stringslite.Index -/
def b270 : ICode :=
 .seq (.region [⟨(.p 2), .mv (.c (.int .i64 (0))), none⟩])
  (.seq (.region [⟨(.l 14), .mv (.p 1), none⟩,
     ⟨(.l 15), .len .str (.l 14), none⟩,
     ⟨(.p 3), .mv (.l 15), none⟩])
   (.seq (.block 0
     (.seq (.region [⟨(.l 17), .mv (.p 3), none⟩,
        ⟨(.l 18), .bin .eql (.l 17) (.c (.int .i64 (0))), none⟩,
        ⟨(.l 19), .mv (.l 18), none⟩,
        ⟨(.l 20), .mv (.p 1), some ((.l 19), false)⟩,
        ⟨(.l 21), .mv (.p 0), some ((.l 19), false)⟩,
        ⟨(.l 22), .bin .eql (.l 20) (.l 21), some ((.l 19), false)⟩,
        ⟨(.l 23), .pick (.l 19) (.c (.bool true)) (.l 22), none⟩,
        ⟨(.l 16), .mv (.l 23), none⟩])
      (.cond (.l 16)
       (.seq (.region [⟨(.p 2), .mv (.c (.int .i64 (0))), none⟩])
        (.ret))
       (.seq (.region [⟨(.l 25), .mv (.p 3), none⟩,
          ⟨(.l 26), .bin .eql (.l 25) (.c (.int .i64 (1))), none⟩,
          ⟨(.l 24), .mv (.l 26), none⟩])
        (.cond (.l 24)
         (.seq (.region [⟨(.l 27), .mv (.p 0), none⟩,
            ⟨(.l 28), .mv (.p 1), none⟩,
            ⟨(.l 29), .index (.l 28) (.c (.int .i64 (0))), none⟩,
            ⟨(.l 30), .call (.c (.fn (.func 316) [] [])) [(.l 27), (.l 29)], none⟩,
            ⟨(.p 2), .mv (.l 30), none⟩])
          (.ret))
         (.seq (.region [⟨(.l 32), .mv (.p 3), none⟩,
            ⟨(.l 33), .mv (.p 0), none⟩,
            ⟨(.l 34), .len .str (.l 33), none⟩,
            ⟨(.l 35), .bin .geq (.l 32) (.l 34), none⟩,
            ⟨(.l 31), .mv (.l 35), none⟩])
          (.cond (.l 31)
           (.seq (.region [⟨(.p 2), .mv (.c (.int .i64 (-1))), none⟩])
            (.ret))
           (.seq (.bad)
            (.cond (.l 36)
             (.seq (.region [⟨(.l 45), .mv (.p 0), none⟩,
                ⟨(.l 46), .mv (.p 1), none⟩,
                ⟨(.l 47), .call (.c (.fn (.func 317) [] [])) [(.l 45), (.l 46)], none⟩,
                ⟨(.p 2), .mv (.l 47), none⟩])
              (.ret))
             (.skip))))))))))
    (.seq (.region [⟨(.l 48), .mv (.p 1), none⟩,
       ⟨(.l 49), .index (.l 48) (.c (.int .i64 (0))), none⟩,
       ⟨(.p 4), .mv (.l 49), none⟩])
     (.seq (.region [⟨(.l 50), .mv (.p 1), none⟩,
        ⟨(.l 51), .index (.l 50) (.c (.int .i64 (1))), none⟩,
        ⟨(.p 5), .mv (.l 51), none⟩])
      (.seq (.region [⟨(.p 6), .mv (.c (.int .i64 (0))), none⟩])
       (.seq (.region [⟨(.l 52), .mv (.p 0), none⟩,
          ⟨(.l 53), .len .str (.l 52), none⟩,
          ⟨(.l 54), .mv (.p 3), none⟩,
          ⟨(.l 55), .bin .sub (.l 53) (.l 54), none⟩,
          ⟨(.l 56), .bin .add (.l 55) (.c (.int .i64 (1))), none⟩,
          ⟨(.p 7), .mv (.l 56), none⟩])
        (.seq (.region [⟨(.p 8), .mv (.c (.int .i64 (0))), none⟩])
         (.seq (.block 1
           (.loop b270_0))
          (.seq (.region [⟨(.p 2), .mv (.c (.int .i64 (-1))), none⟩])
           (.ret))))))))))
theorem ft270 : FT 270 = some ⟨143, [0, 1, 4, 5, 6, 7, 8, 9, 10, 11, 12, 13], [.var (.p 2)], b270⟩ := by kernel_rfl

def b311_0 : ICode :=
 .seq (.region [⟨(.p 7), .next (.p 6), none⟩,
    ⟨(.l 12), .extract 0 (.p 7), none⟩])
  (.seq (.cond (.l 12)
    (.skip)
    (.exit 0))
   (.block 1
    (.seq (.region [⟨(.l 13), .extract 1 (.p 7), none⟩,
       ⟨(.l 14), .extract 2 (.p 7), none⟩,
       ⟨(.p 4), .mv (.l 13), none⟩,
       ⟨(.p 5), .mv (.l 14), none⟩])
     (.seq (.region [⟨(.l 15), .mv (.p 1), none⟩,
        ⟨(.l 16), .mv (.p 5), none⟩,
        ⟨(.l 17), .call (.l 15) [(.l 16)], none⟩,
        ⟨(.l 18), .mv (.p 2), none⟩,
        ⟨(.l 19), .eq false .bool (.l 17) (.l 18), none⟩])
      (.cond (.l 19)
       (.seq (.region [⟨(.l 20), .mv (.p 4), none⟩,
          ⟨(.p 3), .mv (.l 20), none⟩])
        (.ret))
       (.skip))))))
/-- strings.indexFunc -/
def b311 : ICode :=
 .seq (.region [⟨(.p 3), .mv (.c (.int .i64 (0))), none⟩])
  (.seq (.seq (.region [⟨(.l 9), .mv (.p 0), none⟩,
      ⟨(.p 6), .range (.l 9), none⟩])
    (.block 0
     (.loop b311_0)))
   (.seq (.region [⟨(.p 3), .mv (.c (.int .i64 (-1))), none⟩])
    (.ret)))
theorem ft311 : FT 311 = some ⟨21, [0, 1, 2, 6, 7, 8, 10, 11], [.var (.p 3)], b311⟩ := by kernel_rfl

/-- internal/stringslite.IndexByte -/
def b316 : ICode :=
 .seq (.region [⟨(.p 2), .mv (.c (.int .i64 (0))), none⟩])
  (.seq (.region [⟨(.l 5), .mv (.p 0), none⟩,
     ⟨(.l 6), .mv (.p 1), none⟩,
     ⟨(.l 7), .call (.c (.fn (.func 336) [] [])) [(.l 5), (.l 6)], none⟩,
     ⟨(.p 2), .mv (.l 7), none⟩])
   (.ret))
theorem ft316 : FT 316 = some ⟨8, [0, 1, 4], [.var (.p 2)], b316⟩ := by kernel_rfl
end Go.Ab.Ch5


/-
  Own work: images: columns of bytes, their first error.
-/
namespace Go.Ab.Ch5
variable {M : Mach} {cap : Option Nat}

abbrev Str := List UInt8
abbrev cs (s : Str) : List AV := [.str s]

/-! A byte of an image. -/
def pixI (c : Int) : Bool := decide (c = 46) || (decide (97 ≤ c) && decide (c ≤ 122)) || (decide (65 ≤ c) && decide (c ≤ 90))
def pixB (b : UInt8) : Bool := pixI b.toNat
theorem w158 (hft : M.FT = FT) (c : Int) : Run M 158 [.int .u8 c] [] ⟨.bool (pixI c), [], []⟩ := by
  refine run_of_W (by rw [hft]; exact ft158) (by simp) ?_
  unfold b158
  simp only [List.map_cons, List.map_nil, List.getElem?_cons_zero, List.getElem?_cons_succ, List.getElem?_nil, Option.getD_some, Option.getD_none]
  repeat' first | apply W.seq | apply SQn | apply W.region | apply WO.nil | apply W.block | apply W.ret | apply W.exit | apply W.skip | apply SQr | apply SQe | apply BQn | apply BQr | apply BQe | (apply BQo; exact rfl) | apply LQe | apply LQr | (apply W.condT; exact rfl) | (apply W.condF; exact rfl) | (apply W.cond; exact rfl; all_goals intro _) | (apply WO.gT; exact rfl) | (apply WO.gF; exact rfl) | (apply WO.sT; exact rfl) | (apply WO.sF; exact rfl) | (apply WO.sU; exact rfl) | (apply WO.leq; exact rfl; exact rfl; all_goals first | (intro _; exfalso; omega) | intro _) | (apply WO.geq; exact rfl; exact rfl; all_goals first | (intro _; exfalso; omega) | intro _) | (apply WO.eql; exact rfl; exact rfl; all_goals first | (intro _; exfalso; omega) | intro _) | (apply WO.pkT; exact rfl; exact rfl) | (apply WO.pkF; exact rfl; exact rfl) | (apply WO.seql; exact rfl; exact rfl; all_goals first | (intro h; exact absurd h (by decide)) | (intro h; exact absurd rfl h) | (intro h; contradiction) | intro _) | (apply WO.pl; exact rfl; exact rfl) | (apply WO.pp; exact rfl; exact rfl)
  all_goals exact ⟨.inr rfl, rfl, _, rfl, congrArg AV.bool (by simp_all [pixI] <;> omega), rfl⟩

/-! A column. -/
def colE (rows : Int) (s : Str) : Int := if (s.length : Int) ≠ rows then 2 else if s.all pixB then 0 else 1
theorem all_drop {s : Str} {i : Nat} (h : i < s.length) : (s.drop i).all pixB = (pixB s[i]! && (s.drop (i + 1)).all pixB) := by
  rw [List.drop_eq_getElem_cons h, getElem!_pos s i h, List.all_cons]
theorem loop88 (c158 : ∀ c h, M.ext 158 [.int .u8 c] h = some ⟨.bool (pixI c), h, []⟩) (s : Str) (hl : s.length < 4611686018427387904) (a1 a2 : AV) {Q : Ex → StW → Prop} : ∀ (r i : Nat) (lo : List (Nat × AV)) (wr : List Nat), i + r = s.length →
    ((s.drop i).all pixB = true → ∀ lo wr, Q (.exit 0) ⟨⟨[.str s, a1, a2, .int .i64 s.length], lo, [], []⟩, wr⟩) →
    ((s.drop i).all pixB = false → ∀ a3 lo wr, Q .ret ⟨⟨[.str s, a1, .int .i64 1, a3], lo, [], []⟩, wr⟩) →
    W M (.loop b88_0) ⟨⟨[.str s, a1, a2, .int .i64 i], lo, [], []⟩, wr⟩ Q
  | 0, i, lo, wr, hi, h1, h2 => by
    obtain rfl : i = s.length := by omega
    refine W.loop ?_
    unfold b88_0
    repeat' first | apply W.seq | apply SQn | apply W.region | apply WO.nil | apply W.block | apply W.ret | apply W.exit | apply W.skip | apply SQr | apply SQe | apply BQn | apply BQr | apply BQe | (apply BQo; exact rfl) | apply LQe | apply LQr | (apply W.condT; exact rfl) | (apply W.condF; exact rfl) | (apply W.cond; exact rfl; all_goals intro _) | (apply WO.lss; exact rfl; exact rfl; all_goals first | (intro _; exfalso; omega) | intro _) | (apply WO.add; exact rfl; exact rfl; omega) | (apply WO.idx; exact rfl; exact rfl; omega) | (apply WO.clb; exact rfl; exact rfl; exact rfl; all_goals first | (intro h; exact absurd h (by decide)) | intro _) | (apply WO.cll; exact rfl; exact rfl; exact rfl) | (apply WO.pl; exact rfl; exact rfl) | (apply WO.pp; exact rfl; exact rfl)
    exact h1 (by simp) _ _
  | r + 1, i, lo, wr, hi, h1, h2 => by
    have e := all_drop (s := s) (i := (i : Int).toNat) (by omega)
    rw [Int.toNat_natCast] at e
    have hc := c158 (s[((i : Int)).toNat]!).toNat
    refine W.loop ?_
    cases hp : pixB s[((i : Int)).toNat]!
    · rw [show pixI ((s[((i : Int)).toNat]!).toNat : Int) = false from hp] at hc
      rw [Int.toNat_natCast] at hp
      rw [hp] at e
      unfold b88_0
      repeat' first | apply W.seq | apply SQn | apply W.region | apply WO.nil | apply W.block | apply W.ret | apply W.exit | apply W.skip | apply SQr | apply SQe | apply BQn | apply BQr | apply BQe | (apply BQo; exact rfl) | apply LQe | apply LQr | (apply W.condT; exact rfl) | (apply W.condF; exact rfl) | (apply W.cond; exact rfl; all_goals intro _) | (apply WO.lss; exact rfl; exact rfl; all_goals first | (intro _; exfalso; omega) | intro _) | (apply WO.add; exact rfl; exact rfl; omega) | (apply WO.cll; exact rfl; exact rfl; first | exact hc _) | (apply WO.idx; exact rfl; exact rfl; omega) | (apply WO.clb; exact rfl; exact rfl; exact rfl; all_goals first | (intro h; exact absurd h (by decide)) | intro _) | (apply WO.cll; exact rfl; exact rfl; exact rfl) | (apply WO.pl; exact rfl; exact rfl) | (apply WO.pp; exact rfl; exact rfl)
      exact h2 (by rw [e]; rfl) _ _ _
    · rw [show pixI ((s[((i : Int)).toNat]!).toNat : Int) = true from hp] at hc
      rw [Int.toNat_natCast] at hp
      rw [hp, Bool.true_and] at e
      unfold b88_0
      repeat' first | apply W.seq | apply SQn | apply W.region | apply WO.nil | apply W.block | apply W.ret | apply W.exit | apply W.skip | apply SQr | apply SQe | apply BQn | apply BQr | apply BQe | (apply BQo; exact rfl) | apply LQe | apply LQr | (apply W.condT; exact rfl) | (apply W.condF; exact rfl) | (apply W.cond; exact rfl; all_goals intro _) | (apply WO.lss; exact rfl; exact rfl; all_goals first | (intro _; exfalso; omega) | intro _) | (apply WO.add; exact rfl; exact rfl; omega) | (apply WO.cll; exact rfl; exact rfl; first | exact hc _) | (apply WO.idx; exact rfl; exact rfl; omega) | (apply WO.clb; exact rfl; exact rfl; exact rfl; all_goals first | (intro h; exact absurd h (by decide)) | intro _) | (apply WO.cll; exact rfl; exact rfl; exact rfl) | (apply WO.pl; exact rfl; exact rfl) | (apply WO.pp; exact rfl; exact rfl)
      exact LQn (loop88 c158 s hl a1 a2 r (i + 1) _ _ (by omega) (fun h => h1 (by rw [e]; exact h)) (fun h => h2 (by rw [e]; exact h)))
theorem w88 (hft : M.FT = FT) (c158 : ∀ c h, M.ext 158 [.int .u8 c] h = some ⟨.bool (pixI c), h, []⟩) (s : Str) (rows : Int) (hl : s.length < 4611686018427387904) : Run M 88 [.str s, .int .i64 rows] [] ⟨.int .i64 (colE rows s), [], []⟩ := by
  refine run_of_W (by rw [hft]; exact ft88) (by simp) ?_
  unfold b88
  simp only [List.map_cons, List.map_nil, List.getElem?_cons_zero, List.getElem?_cons_succ, List.getElem?_nil, Option.getD_some, Option.getD_none]
  repeat' first | apply W.seq | apply SQn | apply W.region | apply WO.nil | apply W.block | apply W.ret | apply W.exit | apply W.skip | apply SQr | apply SQe | apply BQn | apply BQr | apply BQe | (apply BQo; exact rfl) | apply LQe | apply LQr | (apply W.condT; exact rfl) | (apply W.condF; exact rfl) | (apply W.cond; exact rfl; all_goals intro _) | (apply WO.neq; exact rfl; exact rfl; all_goals first | (intro _; exfalso; omega) | intro _) | (apply WO.sneq; exact rfl; exact rfl; all_goals first | (intro h; exact absurd h (by decide)) | (intro h; exact absurd rfl h) | (intro h; contradiction) | intro _) | (apply WO.pl; exact rfl; exact rfl) | (apply WO.pp; exact rfl; exact rfl)
  · rename_i h
    exact ⟨.inr rfl, rfl, _, rfl, by rw [colE, if_pos h]; rfl, rfl⟩
  · rename_i h
    refine loop88 c158 s hl _ _ s.length 0 _ _ (by omega) (fun h1 lo wr => ?_) (fun h1 a3 lo wr => ?_)
    · rw [List.drop_zero] at h1
      repeat' first | apply W.seq | apply SQn | apply W.region | apply WO.nil | apply W.block | apply W.ret | apply W.exit | apply W.skip | apply SQr | apply SQe | apply BQn | apply BQr | apply BQe | (apply BQo; exact rfl) | apply LQe | apply LQr | (apply W.condT; exact rfl) | (apply W.condF; exact rfl) | (apply W.cond; exact rfl; all_goals intro _) | (apply WO.neq; exact rfl; exact rfl; all_goals first | (intro _; exfalso; omega) | intro _) | (apply WO.sneq; exact rfl; exact rfl; all_goals first | (intro h; exact absurd h (by decide)) | (intro h; exact absurd rfl h) | (intro h; contradiction) | intro _) | (apply WO.pl; exact rfl; exact rfl) | (apply WO.pp; exact rfl; exact rfl)
      exact ⟨.inr rfl, rfl, _, rfl, by rw [colE, if_neg (by omega), h1]; rfl, rfl⟩
    · rw [List.drop_zero] at h1
      repeat' first | apply W.seq | apply SQn | apply W.region | apply WO.nil | apply W.block | apply W.ret | apply W.exit | apply W.skip | apply SQr | apply SQe | apply BQn | apply BQr | apply BQe | (apply BQo; exact rfl) | apply LQe | apply LQr | (apply W.condT; exact rfl) | (apply W.condF; exact rfl) | (apply W.cond; exact rfl; all_goals intro _) | (apply WO.neq; exact rfl; exact rfl; all_goals first | (intro _; exfalso; omega) | intro _) | (apply WO.sneq; exact rfl; exact rfl; all_goals first | (intro h; exact absurd h (by decide)) | (intro h; exact absurd rfl h) | (intro h; contradiction) | intro _) | (apply WO.pl; exact rfl; exact rfl) | (apply WO.pp; exact rfl; exact rfl)
      exact ⟨.inr rfl, rfl, _, rfl, by rw [colE, if_neg (by omega), h1]; rfl, rfl⟩

/-! letters: the first rune that is none of an image's. -/
theorem r205 (hft : M.FT = FT) (n : ∀ ars h, M.ext 205 ars h = none) (H : Heap) (c : Int) : CT M (fnV 205) [.int .i32 c] H ⟨.bool (!pixI c), H, []⟩ := by
  refine CT.run (n _ _) (run_same (by rw [hft]; exact ft205) (by simp) ?_)
  simp only [List.nil_append, List.append_nil]
  unfold b205
  simp only [List.map_cons, List.map_nil, List.getElem?_cons_zero, List.getElem?_cons_succ, List.getElem?_nil, Option.getD_some, Option.getD_none]
  repeat' first | apply W.seq | apply SQn | apply W.region | apply WO.nil | apply W.block | apply W.ret | apply W.exit | apply W.skip | apply SQr | apply SQe | apply BQn | apply BQr | apply BQe | (apply BQo; exact rfl) | apply LQe | apply LQr | (apply W.condT; exact rfl) | (apply W.condF; exact rfl) | (apply W.cond; exact rfl; all_goals intro _) | (apply WO.gT; exact rfl) | (apply WO.gF; exact rfl) | (apply WO.sT; exact rfl) | (apply WO.sF; exact rfl) | (apply WO.sU; exact rfl) | (apply WO.lss; exact rfl; exact rfl; all_goals first | (intro _; exfalso; omega) | intro _) | (apply WO.gtr; exact rfl; exact rfl; all_goals first | (intro _; exfalso; omega) | intro _) | (apply WO.neq; exact rfl; exact rfl; all_goals first | (intro _; exfalso; omega) | intro _) | (apply WO.pkT; exact rfl; exact rfl) | (apply WO.pkF; exact rfl; exact rfl) | (apply WO.sneq; exact rfl; exact rfl; all_goals first | (intro h; exact absurd h (by decide)) | (intro h; exact absurd rfl h) | (intro h; contradiction) | intro _) | (apply WO.pl; exact rfl; exact rfl) | (apply WO.pp; exact rfl; exact rfl)
  all_goals exact ⟨.inr rfl, rfl, rfl, rfl, _, rfl, congrArg AV.bool (by simp_all [pixI] <;> omega)⟩
end Go.Ab.Ch5


/-
  Own work: images: letters, by the runes of a column.
-/
namespace Go.Ab.Ch5
variable {M : Mach} {cap : Option Nat}

theorem WO.nxT {i pos c w : Nat} {x : IOpd} {l : List IOper} {pe : List AV} {lo : List (Nat × AV)} {hp : Heap} {df wr : List Nat} {t : List UInt8} {Q : StW → Prop} (hx : (St.mk pe lo (hp ++ [some (.iter t pos)]) df).opd x = some (.ptr hp.length 0)) (hp0 : pos < t.length)
    (hd : Utf8.decode ⟨t.toArray⟩ pos = (c, w)) (h : WO M l ⟨⟨pe.set i (.tup [.bool true, .int .i64 pos, .int .i32 c]), lo, hp ++ [some (.iter t (pos + w))], df⟩, hp.length :: wr⟩ Q) : WO M (⟨.p i, .next x, none⟩ :: l) ⟨⟨pe, lo, hp ++ [some (.iter t pos)], df⟩, wr⟩ Q := by
  refine WO.hpv (v := .tup [.bool true, .int .i64 pos, .int .i32 c]) (h' := hp ++ [some (.iter t (pos + w))]) (w' := [hp.length]) ?_ rfl rfl h
  simp only [heapA, hx, at_new, if_pos hp0, hd, put_end rfl]
theorem WO.nxF {i pos : Nat} {x : IOpd} {l : List IOper} {pe : List AV} {lo : List (Nat × AV)} {hp : Heap} {df wr : List Nat} {t : List UInt8} {Q : StW → Prop} (hx : (St.mk pe lo (hp ++ [some (.iter t pos)]) df).opd x = some (.ptr hp.length 0)) (hp0 : ¬ pos < t.length)
    (h : WO M l ⟨⟨pe.set i (.tup [.bool false]), lo, hp ++ [some (.iter t pos)], df⟩, wr⟩ Q) : WO M (⟨.p i, .next x, none⟩ :: l) ⟨⟨pe, lo, hp ++ [some (.iter t pos)], df⟩, wr⟩ Q := by
  refine WO.hpv (v := .tup [.bool false]) (h' := hp ++ [some (.iter t pos)]) (w' := []) ?_ rfl rfl h
  simp only [heapA, hx, at_new, if_neg hp0]

theorem dec_ascii {s : Str} {i : Nat} (h : i < s.length) (hb : (s[i]!).toNat < 128) : Utf8.decode ⟨s.toArray⟩ i = ((s[i]!).toNat, 1) := by
  have hs : i < (ByteArray.mk s.toArray).size := by simpa [ByteArray.size] using h
  have e : ((ByteArray.mk s.toArray)[i]'hs) = s[i]! := by
    rw [getElem!_pos s i h]; rfl
  have := decode_ascii (ByteArray.mk s.toArray) i hs (by rw [e]; exact hb)
  rw [this, e]
theorem dec_other {s : Str} {i : Nat} (h : i < s.length) (hb : ¬ (s[i]!).toNat < 128) : ∃ c w, Utf8.decode ⟨s.toArray⟩ i = (c, w) ∧ 128 ≤ c := by
  have e : ((ByteArray.mk s.toArray).get! (i + 0)) = s[i]! := by
    rw [Nat.add_zero, getElem!_pos s i h]
    simp [ByteArray.get!, h]
  refine ⟨(Utf8.decode ⟨s.toArray⟩ i).1, (Utf8.decode ⟨s.toArray⟩ i).2, rfl, ?_⟩
  unfold Utf8.decode
  simp only [e]
  rw [if_neg hb]
  have hr : (128 : Nat) ≤ Utf8.runeError := by decide
  split
  · split
    · omega
    · exact hr
  · split
    · split
      · rename_i h1; simp only [ge_iff_le, Bool.and_eq_true, decide_eq_true_eq] at h1; omega
      · exact hr
    · split
      · split
        · rename_i h1; simp only [ge_iff_le, Bool.and_eq_true, decide_eq_true_eq] at h1; omega
        · exact hr
      · exact hr

/-- The first byte that is none of an image's, or -1. -/
def badAt : Str → Nat → Int
  | [], _ => -1
  | b :: r, i => if pixB b then badAt r (i + 1) else i
theorem badAt_drop {s : Str} {i : Nat} (h : i < s.length) : badAt (s.drop i) i = if pixB s[i]! then badAt (s.drop (i + 1)) (i + 1) else (i : Int) := by
  rw [List.drop_eq_getElem_cons h, getElem!_pos s i h, badAt]
theorem badAt_all : ∀ (s : Str) (i : Nat), decide (0 ≤ badAt s i) = !s.all pixB
  | [], i => by simp [badAt]
  | b :: s, i => by
    rw [badAt, List.all_cons]
    cases pixB b
    · simp
    · simpa using badAt_all s (i + 1)
theorem badAt_lt : ∀ (s : Str) (i : Nat), badAt s i = -1 ∨ (0 ≤ badAt s i ∧ badAt s i < i + s.length)
  | [], i => .inl rfl
  | b :: s, i => by
    rw [badAt]
    split
    · rcases badAt_lt s (i + 1) with h | h
      · exact .inl h
      · right; simp only [List.length_cons]; omega
    · right; simp only [List.length_cons]; omega
theorem pixI_ge {c : Int} (h : 128 ≤ c) : pixI c = false := by
  simp [pixI]; omega

theorem loop311 (s : Str) (f : AV) (H : Heap) (hl : s.length < 4611686018427387904) (hf : ∀ c hp, CT M f [.int .i32 c] hp ⟨.bool (!pixI c), hp, []⟩) {Q : Ex → StW → Prop} : ∀ (r i : Nat) (a4 a5 a7 : AV) (lo : List (Nat × AV)) (wr : List Nat), i + r = s.length → (∀ x ∈ wr, H.length ≤ x) →
    (badAt (s.drop i) i = -1 → ∀ a4 a5 a7 lo J wr, (∀ x ∈ wr, H.length ≤ x) → Q (.exit 0) ⟨⟨[.str s, f, .bool true, .int .i64 0, a4, a5, .ptr H.length 0, a7], lo, H ++ J, []⟩, wr⟩) →
    (∀ a4 a5 a7 lo J wr, (∀ x ∈ wr, H.length ≤ x) → Q .ret ⟨⟨[.str s, f, .bool true, .int .i64 (badAt (s.drop i) i), a4, a5, .ptr H.length 0, a7], lo, H ++ J, []⟩, wr⟩) →
    W M (.loop b311_0) ⟨⟨[.str s, f, .bool true, .int .i64 0, a4, a5, .ptr H.length 0, a7], lo, H ++ [some (.iter s i)], []⟩, wr⟩ Q
  | 0, i, a4, a5, a7, lo, wr, hi, hw, h1, h2 => by
    obtain rfl : i = s.length := by omega
    refine W.loop ?_
    unfold b311_0
    repeat' first | (apply WO.nxF; exact rfl; omega) | apply W.seq | apply SQn | apply W.region | apply WO.nil | apply W.block | apply W.ret | apply W.exit | apply W.skip | apply SQr | apply SQe | apply BQn | apply BQr | apply BQe | (apply BQo; exact rfl) | apply LQe | apply LQr | (apply W.condT; exact rfl) | (apply W.condF; exact rfl) | (apply W.cond; exact rfl; all_goals intro _) | (apply WO.clb; exact rfl; exact rfl; exact rfl; all_goals first | (intro h; exact absurd h (by decide)) | intro _) | (apply WO.cll; exact rfl; exact rfl; exact rfl) | (apply WO.hlv; exact rfl; exact rfl; exact rfl) | (apply WO.hpv; exact rfl; exact rfl; exact rfl) | (apply WO.hnv; exact rfl; exact rfl; exact rfl) | (apply WO.pl; exact rfl; exact rfl) | (apply WO.pp; exact rfl; exact rfl)
    exact h1 (by simp [badAt]) _ _ _ _ _ _ hw
  | r + 1, i, a4, a5, a7, lo, wr, hi, hw, h1, h2 => by
    have e := badAt_drop (s := s) (i := i) (by omega)
    have hw' : ∀ x ∈ H.length :: wr, H.length ≤ x := fun x hx => by
      rcases List.mem_cons.1 hx with rfl | hx
      · exact Nat.le_refl _
      · exact hw x hx
    refine W.loop ?_
    by_cases hb : (s[i]!).toNat < 128
    · have hd := dec_ascii (s := s) (i := i) (by omega) hb
      have hc := hf (s[i]!).toNat
      cases hp : pixB s[i]!
      · rw [show pixI ((s[i]!).toNat : Int) = false from hp] at hc
        rw [hp] at e
        have hc' := hc (H ++ [some (.iter s (i + 1))])
        rw [e] at h2
        unfold b311_0
        repeat' first | (apply WO.nxT; exact rfl; omega; exact hd) | apply W.seq | apply SQn | apply W.region | apply WO.nil | apply W.block | apply W.ret | apply W.exit | apply W.skip | apply SQr | apply SQe | apply BQn | apply BQr | apply BQe | (apply BQo; exact rfl) | apply LQe | apply LQr | (apply W.condT; exact rfl) | (apply W.condF; exact rfl) | (apply W.cond; exact rfl; all_goals intro _) | (apply WO.ct; exact rfl; exact rfl; first | exact hc') | (apply WO.ctn; exact rfl; exact rfl; first | exact hc') | (apply WD.ct; exact rfl; exact rfl; exact rfl; first | exact hc') | (apply WO.clb; exact rfl; exact rfl; exact rfl; all_goals first | (intro h; exact absurd h (by decide)) | intro _) | (apply WO.cll; exact rfl; exact rfl; exact rfl) | (apply WO.hlv; exact rfl; exact rfl; exact rfl) | (apply WO.hpv; exact rfl; exact rfl; exact rfl) | (apply WO.hnv; exact rfl; exact rfl; exact rfl) | (apply WO.pl; exact rfl; exact rfl) | (apply WO.pp; exact rfl; exact rfl)
        exact h2 _ _ _ _ _ _ hw'
      · rw [show pixI ((s[i]!).toNat : Int) = true from hp] at hc
        rw [hp] at e
        have hc' := hc (H ++ [some (.iter s (i + 1))])
        rw [if_pos rfl] at e
        rw [e] at h1 h2
        unfold b311_0
        repeat' first | (apply WO.nxT; exact rfl; omega; exact hd) | apply W.seq | apply SQn | apply W.region | apply WO.nil | apply W.block | apply W.ret | apply W.exit | apply W.skip | apply SQr | apply SQe | apply BQn | apply BQr | apply BQe | (apply BQo; exact rfl) | apply LQe | apply LQr | (apply W.condT; exact rfl) | (apply W.condF; exact rfl) | (apply W.cond; exact rfl; all_goals intro _) | (apply WO.ct; exact rfl; exact rfl; first | exact hc') | (apply WO.ctn; exact rfl; exact rfl; first | exact hc') | (apply WD.ct; exact rfl; exact rfl; exact rfl; first | exact hc') | (apply WO.clb; exact rfl; exact rfl; exact rfl; all_goals first | (intro h; exact absurd h (by decide)) | intro _) | (apply WO.cll; exact rfl; exact rfl; exact rfl) | (apply WO.hlv; exact rfl; exact rfl; exact rfl) | (apply WO.hpv; exact rfl; exact rfl; exact rfl) | (apply WO.hnv; exact rfl; exact rfl; exact rfl) | (apply WO.pl; exact rfl; exact rfl) | (apply WO.pp; exact rfl; exact rfl)
        exact LQn (loop311 s f H hl hf r (i + 1) _ _ _ _ _ (by omega) hw' h1 h2)
    · obtain ⟨c, w, hd, hc128⟩ := dec_other (s := s) (i := i) (by omega) hb
      have hc := hf c
      rw [pixI_ge (show (128 : Int) ≤ (c : Int) by omega)] at hc
      have hc' := hc (H ++ [some (.iter s (i + w))])
      have hp : pixB s[i]! = false := pixI_ge (by omega)
      rw [hp] at e
      rw [e] at h2
      unfold b311_0
      repeat' first | (apply WO.nxT; exact rfl; omega; exact hd) | apply W.seq | apply SQn | apply W.region | apply WO.nil | apply W.block | apply W.ret | apply W.exit | apply W.skip | apply SQr | apply SQe | apply BQn | apply BQr | apply BQe | (apply BQo; exact rfl) | apply LQe | apply LQr | (apply W.condT; exact rfl) | (apply W.condF; exact rfl) | (apply W.cond; exact rfl; all_goals intro _) | (apply WO.ct; exact rfl; exact rfl; first | exact hc') | (apply WO.ctn; exact rfl; exact rfl; first | exact hc') | (apply WD.ct; exact rfl; exact rfl; exact rfl; first | exact hc') | (apply WO.clb; exact rfl; exact rfl; exact rfl; all_goals first | (intro h; exact absurd h (by decide)) | intro _) | (apply WO.cll; exact rfl; exact rfl; exact rfl) | (apply WO.hlv; exact rfl; exact rfl; exact rfl) | (apply WO.hpv; exact rfl; exact rfl; exact rfl) | (apply WO.hnv; exact rfl; exact rfl; exact rfl) | (apply WO.pl; exact rfl; exact rfl) | (apply WO.pp; exact rfl; exact rfl)
      exact h2 _ _ _ _ _ _ hw'
theorem r311 (hft : M.FT = FT) (n : ∀ ars h, M.ext 311 ars h = none) (s : Str) (f : AV) (H : Heap) (hl : s.length < 4611686018427387904) (hf : ∀ c hp, CT M f [.int .i32 c] hp ⟨.bool (!pixI c), hp, []⟩) :
    CT M (fnV 311) [.str s, f, .bool true] H ⟨.int .i64 (badAt s 0), H, []⟩ := by
  refine CT.run (n _ _) (run_drop (by rw [hft]; exact ft311) (by simp) rfl ?_)
  simp only [List.nil_append, List.append_nil]
  unfold b311
  simp only [List.map_cons, List.map_nil, List.getElem?_cons_zero, List.getElem?_cons_succ, List.getElem?_nil, Option.getD_some, Option.getD_none]
  repeat' first | apply W.seq | apply SQn | apply W.region | apply WO.nil | apply W.block | apply W.ret | apply W.exit | apply W.skip | apply SQr | apply SQe | apply BQn | apply BQr | apply BQe | (apply BQo; exact rfl) | apply LQe | apply LQr | (apply W.condT; exact rfl) | (apply W.condF; exact rfl) | (apply W.cond; exact rfl; all_goals intro _) | (apply WO.hlv; exact rfl; exact rfl; exact rfl) | (apply WO.hpv; exact rfl; exact rfl; exact rfl) | (apply WO.hnv; exact rfl; exact rfl; exact rfl) | (apply WO.pl; exact rfl; exact rfl) | (apply WO.pp; exact rfl; exact rfl)
  refine loop311 s f H hl hf s.length 0 _ _ _ _ _ (by omega) (by simp) (fun h a4 a5 a7 lo J wr hw => ?_) (fun a4 a5 a7 lo J wr hw => ?_)
  · repeat' first | apply W.seq | apply SQn | apply W.region | apply WO.nil | apply W.block | apply W.ret | apply W.exit | apply W.skip | apply SQr | apply SQe | apply BQn | apply BQr | apply BQe | (apply BQo; exact rfl) | apply LQe | apply LQr | (apply W.condT; exact rfl) | (apply W.condF; exact rfl) | (apply W.cond; exact rfl; all_goals intro _) | (apply WO.hlv; exact rfl; exact rfl; exact rfl) | (apply WO.hpv; exact rfl; exact rfl; exact rfl) | (apply WO.hnv; exact rfl; exact rfl; exact rfl) | (apply WO.pl; exact rfl; exact rfl) | (apply WO.pp; exact rfl; exact rfl)
    exact ⟨.inr rfl, rfl, ⟨_, rfl⟩, hw, _, rfl, by rw [List.drop_zero] at h; rw [h]; rfl⟩
  · repeat' first | apply W.seq | apply SQn | apply W.region | apply WO.nil | apply W.block | apply W.ret | apply W.exit | apply W.skip | apply SQr | apply SQe | apply BQn | apply BQr | apply BQe | (apply BQo; exact rfl) | apply LQe | apply LQr | (apply W.condT; exact rfl) | (apply W.condF; exact rfl) | (apply W.cond; exact rfl; all_goals intro _) | (apply WO.hlv; exact rfl; exact rfl; exact rfl) | (apply WO.hpv; exact rfl; exact rfl; exact rfl) | (apply WO.hnv; exact rfl; exact rfl; exact rfl) | (apply WO.pl; exact rfl; exact rfl) | (apply WO.pp; exact rfl; exact rfl)
    exact ⟨.inr rfl, rfl, ⟨_, rfl⟩, hw, _, rfl, rfl⟩
structure C153 (M : Mach) : Prop where
  ft : M.FT = FT
  n204 : ∀ ars h, M.ext 204 ars h = none
  n205 : ∀ ars h, M.ext 205 ars h = none
  n265 : ∀ ars h, M.ext 265 ars h = none
  n311 : ∀ ars h, M.ext 311 ars h = none
theorem r265 (C : C153 M) (s : Str) (H : Heap) (hl : s.length < 4611686018427387904) : CT M (fnV 265) [.str s, fnV 205] H ⟨.int .i64 (badAt s 0), H, []⟩ := by
  have hc := r311 C.ft C.n311 s (fnV 205) H hl (fun c hp => r205 C.ft C.n205 hp c)
  refine CT.run (C.n265 _ _) (run_same (by rw [C.ft]; exact ft265) (by simp) ?_)
  simp only [List.nil_append, List.append_nil]
  unfold b265
  simp only [List.map_cons, List.map_nil, List.getElem?_cons_zero, List.getElem?_cons_succ, List.getElem?_nil, Option.getD_some, Option.getD_none]
  repeat' first | apply W.seq | apply SQn | apply W.region | apply WO.nil | apply W.block | apply W.ret | apply W.exit | apply W.skip | apply SQr | apply SQe | apply BQn | apply BQr | apply BQe | (apply BQo; exact rfl) | apply LQe | apply LQr | (apply W.condT; exact rfl) | (apply W.condF; exact rfl) | (apply W.cond; exact rfl; all_goals intro _) | (apply WO.ct; exact rfl; exact rfl; first | exact hc) | (apply WO.ctn; exact rfl; exact rfl; first | exact hc) | (apply WD.ct; exact rfl; exact rfl; exact rfl; first | exact hc) | (apply WO.clb; exact rfl; exact rfl; exact rfl; all_goals first | (intro h; exact absurd h (by decide)) | intro _) | (apply WO.cll; exact rfl; exact rfl; exact rfl) | (apply WO.pl; exact rfl; exact rfl) | (apply WO.pp; exact rfl; exact rfl)
  exact ⟨.inr rfl, rfl, rfl, rfl, _, rfl, rfl⟩
theorem r204 (C : C153 M) (s : Str) (H : Heap) (hl : s.length < 4611686018427387904) : CT M (fnV 204) [.str s, fnV 205] H ⟨.bool (!s.all pixB), H, []⟩ := by
  have hc := r265 C s H hl
  have hb := badAt_lt s 0
  rw [← badAt_all s 0]
  refine CT.run (C.n204 _ _) (run_same (by rw [C.ft]; exact ft204) (by simp) ?_)
  simp only [List.nil_append, List.append_nil]
  unfold b204
  simp only [List.map_cons, List.map_nil, List.getElem?_cons_zero, List.getElem?_cons_succ, List.getElem?_nil, Option.getD_some, Option.getD_none]
  repeat' first | apply W.seq | apply SQn | apply W.region | apply WO.nil | apply W.block | apply W.ret | apply W.exit | apply W.skip | apply SQr | apply SQe | apply BQn | apply BQr | apply BQe | (apply BQo; exact rfl) | apply LQe | apply LQr | (apply W.condT; exact rfl) | (apply W.condF; exact rfl) | (apply W.cond; exact rfl; all_goals intro _) | (apply WO.geq; exact rfl; exact rfl; all_goals first | (intro _; exfalso; omega) | intro _) | (apply WO.ct; exact rfl; exact rfl; first | exact hc) | (apply WO.ctn; exact rfl; exact rfl; first | exact hc) | (apply WD.ct; exact rfl; exact rfl; exact rfl; first | exact hc) | (apply WO.clb; exact rfl; exact rfl; exact rfl; all_goals first | (intro h; exact absurd h (by decide)) | intro _) | (apply WO.cll; exact rfl; exact rfl; exact rfl) | (apply WO.pl; exact rfl; exact rfl) | (apply WO.pp; exact rfl; exact rfl)
  all_goals (rename_i h; exact ⟨.inr rfl, rfl, rfl, rfl, _, rfl, congrArg AV.bool (by simp [h])⟩)
theorem w153 (C : C153 M) (s : Str) (hl : s.length < 4611686018427387904) : Run M 153 [.str s] [] ⟨.bool (s.all pixB), [], []⟩ := by
  have hc := r204 C s [] hl
  refine run_of_W (by rw [C.ft]; exact ft153) (by simp) ?_
  unfold b153
  simp only [List.map_cons, List.map_nil, List.getElem?_cons_zero, List.getElem?_cons_succ, List.getElem?_nil, Option.getD_some, Option.getD_none]
  cases hs : s.all pixB
  all_goals
    rw [hs] at hc
    repeat' first | apply W.seq | apply SQn | apply W.region | apply WO.nil | apply W.block | apply W.ret | apply W.exit | apply W.skip | apply SQr | apply SQe | apply BQn | apply BQr | apply BQe | (apply BQo; exact rfl) | apply LQe | apply LQr | (apply W.condT; exact rfl) | (apply W.condF; exact rfl) | (apply W.cond; exact rfl; all_goals intro _) | (apply WO.ct; exact rfl; exact rfl; first | exact hc) | (apply WO.ctn; exact rfl; exact rfl; first | exact hc) | (apply WD.ct; exact rfl; exact rfl; exact rfl; first | exact hc) | (apply WO.clb; exact rfl; exact rfl; exact rfl; all_goals first | (intro h; exact absurd h (by decide)) | intro _) | (apply WO.cll; exact rfl; exact rfl; exact rfl) | (apply WO.pl; exact rfl; exact rfl) | (apply WO.pp; exact rfl; exact rfl)
    exact ⟨.inr rfl, rfl, _, rfl, rfl, rfl⟩
end Go.Ab.Ch5


/-
  Own work: images: the first error of an image, both ways.
-/
namespace Go.Ab.Ch5
variable {M : Mach} {cap : Option Nat}

def headE (rows : Int) (n : Nat) : Int := if outI rows 1 64 then 3 else if n = 0 then 12 else if 4096 < n then 5 else 0
def colsE (rows : Int) : List Str → Int
  | [] => 0
  | s :: l => if colE rows s ≠ 0 then colE rows s else colsE rows l
def imgE (rows : Int) (l : List Str) : Int := if headE rows l.length ≠ 0 then headE rows l.length else colsE rows l
theorem colsE_drop {rows : Int} {l : List Str} {i : Nat} (h : i < l.length) : colsE rows (l.drop i) = if colE rows l[i]! ≠ 0 then colE rows l[i]! else colsE rows (l.drop (i + 1)) := by
  rw [List.drop_eq_getElem_cons h, getElem!_pos l i h, colsE]
theorem short_get {l : List Str} (hL : ∀ s ∈ l, s.length < 4611686018427387904) {i : Nat} (h : i < l.length) : (l[i]!).length < 4611686018427387904 := by
  rw [getElem!_pos l i h]; exact hL _ (List.getElem_mem h)

/-! The reference. -/
structure C18 (M : Mach) : Prop where
  ft : M.FT = FT
  c87 : ∀ x lo hi h, M.ext 87 [.int .i64 x, .int .i64 lo, .int .i64 hi] h = some ⟨.bool (outI x lo hi), h, []⟩
  c88 : ∀ s rows h, s.length < 4611686018427387904 → M.ext 88 [.str s, .int .i64 rows] h = some ⟨.int .i64 (colE rows s), h, []⟩
theorem loop18 (C : C18 M) (rows : Int) (l : List Str) (hL : ∀ s ∈ l, s.length < 4611686018427387904) (hl : l.length < 1000000) (a0 : AV) {Q : Ex → StW → Prop} : ∀ (r i : Nat) (a4 : AV) (lo : List (Nat × AV)) (wr : List Nat), i + r = l.length →
    (colsE rows (l.drop i) = 0 → ∀ a4 lo wr, Q (.exit 0) ⟨⟨[a0, .ptr 0 0, .int .i64 0, .int .i64 l.length, a4], lo, [some (.cells [.int .i64 rows, .vs (strs l) l.length cap] 25)], []⟩, wr⟩) →
    (∀ a3 a4 lo wr, Q .ret ⟨⟨[a0, .ptr 0 0, .int .i64 (colsE rows (l.drop i)), a3, a4], lo, [some (.cells [.int .i64 rows, .vs (strs l) l.length cap] 25)], []⟩, wr⟩) →
    W M (.loop b18_0) ⟨⟨[a0, .ptr 0 0, .int .i64 0, .int .i64 i, a4], lo, [some (.cells [.int .i64 rows, .vs (strs l) l.length cap] 25)], []⟩, wr⟩ Q
  | 0, i, a4, lo, wr, hi, h1, h2 => by
    obtain rfl : i = l.length := by omega
    refine W.loop ?_
    unfold b18_0
    repeat' first | apply W.seq | apply SQn | apply W.region | apply WO.nil | apply W.block | apply W.ret | apply W.exit | apply W.skip | apply SQr | apply SQe | apply BQn | apply BQr | apply BQe | (apply BQo; exact rfl) | apply LQe | apply LQr | (apply W.drawro; exact rfl) | apply W.draw | apply WD.nil | (apply WD.gT; exact rfl) | (apply WD.gF; exact rfl) | (apply WD.sT; exact rfl) | (apply WD.sF; exact rfl) | (apply WD.sU; exact rfl) | (apply WD.pure1; exact rfl) | (apply WD.load1; exact rfl; exact rfl; exact rfl) | (apply WD.clb; exact rfl; exact rfl; exact rfl; exact rfl; all_goals first | (intro h; exact absurd h (by decide)) | intro _) | (apply WD.cl0; exact rfl; exact rfl; exact rfl; exact rfl) | (apply WD.cl1; exact rfl; exact rfl; exact rfl; exact rfl) | (apply W.condT; exact rfl) | (apply W.condF; exact rfl) | (apply W.cond; exact rfl; all_goals intro _) | (apply WO.lss; exact rfl; exact rfl; all_goals first | (intro _; exfalso; omega) | intro _) | (apply WO.neq; exact rfl; exact rfl; all_goals first | (intro _; exfalso; omega) | intro _) | (apply WO.add; exact rfl; exact rfl; omega) | (apply WO.iav; exact rfl; exact rfl; omega) | (apply WO.ias; exact rfl; exact rfl; omega) | (apply WO.lda; exact rfl; exact fun _ => rfl; (first | omega | (simp only [List.length_set]; omega) | (simp; omega)); decide; exact rfl; case ia => infer_instance) | (apply WO.lsa; exact rfl; (first | exact rfl | assumption | exact at_new | (apply at_old; assumption) | (apply at_put; first | assumption | (simp only [put_length]; assumption))); exact fun _ => rfl; (first | omega | (simp only [List.length_set]; omega) | (simp; omega)); decide; exact rfl; case ia => infer_instance) | (apply WO.ldf; exact rfl; exact fun _ => rfl; (first | omega | (simp only [List.length_set]; omega) | (simp; omega)); decide; exact rfl; case ia => infer_instance) | (apply WO.lsf; exact rfl; (first | exact rfl | assumption | exact at_new | (apply at_old; assumption) | (apply at_put; first | assumption | (simp only [put_length]; assumption))); exact fun _ => rfl; (first | omega | (simp only [List.length_set]; omega) | (simp; omega)); decide; exact rfl; case ia => infer_instance) | (apply WO.sneq; exact rfl; exact rfl; all_goals first | (intro h; exact absurd h (by decide)) | (intro h; exact absurd rfl h) | (intro h; contradiction) | intro _) | (apply WO.clb; exact rfl; exact rfl; exact rfl; all_goals first | (intro h; exact absurd h (by decide)) | intro _) | (apply WO.cll; exact rfl; exact rfl; exact rfl) | (apply WO.hlv; exact rfl; exact rfl; exact rfl) | (apply WO.hpv; exact rfl; exact rfl; exact rfl) | (apply WO.hnv; exact rfl; exact rfl; exact rfl) | (apply WO.pl; exact rfl; exact rfl) | (apply WO.pp; exact rfl; exact rfl)
    exact h1 (by simp [colsE]) _ _ _
  | r + 1, i, a4, lo, wr, hi, h1, h2 => by
    have e := colsE_drop (rows := rows) (l := l) (i := (i : Int).toNat) (by omega)
    rw [Int.toNat_natCast] at e
    have hc := fun h => C.c88 l[((i : Int)).toNat]! rows h (short_get hL (by omega))
    refine W.loop ?_
    unfold b18_0
    repeat' first | apply W.seq | apply SQn | apply W.region | apply WO.nil | apply W.block | apply W.ret | apply W.exit | apply W.skip | apply SQr | apply SQe | apply BQn | apply BQr | apply BQe | (apply BQo; exact rfl) | apply LQe | apply LQr | (apply W.drawro; exact rfl) | apply W.draw | apply WD.nil | (apply WD.gT; exact rfl) | (apply WD.gF; exact rfl) | (apply WD.sT; exact rfl) | (apply WD.sF; exact rfl) | (apply WD.sU; exact rfl) | (apply WD.pure1; exact rfl) | (apply WD.load1; exact rfl; exact rfl; exact rfl) | (apply WD.clb; exact rfl; exact rfl; exact rfl; exact rfl; all_goals first | (intro h; exact absurd h (by decide)) | intro _) | (apply WD.cl0; exact rfl; exact rfl; exact rfl; exact rfl) | (apply WD.cl1; exact rfl; exact rfl; exact rfl; exact rfl) | (apply W.condT; exact rfl) | (apply W.condF; exact rfl) | (apply W.cond; exact rfl; all_goals intro _) | (apply WO.lss; exact rfl; exact rfl; all_goals first | (intro _; exfalso; omega) | intro _) | (apply WO.neq; exact rfl; exact rfl; all_goals first | (intro _; exfalso; omega) | intro _) | (apply WO.add; exact rfl; exact rfl; omega) | (apply WO.cll; exact rfl; exact rfl; first | exact hc _) | (apply WD.cl0; exact rfl; exact rfl; exact rfl; first | exact hc _) | (apply WO.iav; exact rfl; exact rfl; omega) | (apply WO.ias; exact rfl; exact rfl; omega) | (apply WO.lda; exact rfl; exact fun _ => rfl; (first | omega | (simp only [List.length_set]; omega) | (simp; omega)); decide; exact rfl; case ia => infer_instance) | (apply WO.lsa; exact rfl; (first | exact rfl | assumption | exact at_new | (apply at_old; assumption) | (apply at_put; first | assumption | (simp only [put_length]; assumption))); exact fun _ => rfl; (first | omega | (simp only [List.length_set]; omega) | (simp; omega)); decide; exact rfl; case ia => infer_instance) | (apply WO.ldf; exact rfl; exact fun _ => rfl; (first | omega | (simp only [List.length_set]; omega) | (simp; omega)); decide; exact rfl; case ia => infer_instance) | (apply WO.lsf; exact rfl; (first | exact rfl | assumption | exact at_new | (apply at_old; assumption) | (apply at_put; first | assumption | (simp only [put_length]; assumption))); exact fun _ => rfl; (first | omega | (simp only [List.length_set]; omega) | (simp; omega)); decide; exact rfl; case ia => infer_instance) | (apply WO.sneq; exact rfl; exact rfl; all_goals first | (intro h; exact absurd h (by decide)) | (intro h; exact absurd rfl h) | (intro h; contradiction) | intro _) | (apply WO.clb; exact rfl; exact rfl; exact rfl; all_goals first | (intro h; exact absurd h (by decide)) | intro _) | (apply WO.cll; exact rfl; exact rfl; exact rfl) | (apply WO.hlv; exact rfl; exact rfl; exact rfl) | (apply WO.hpv; exact rfl; exact rfl; exact rfl) | (apply WO.hnv; exact rfl; exact rfl; exact rfl) | (apply WO.pl; exact rfl; exact rfl) | (apply WO.pp; exact rfl; exact rfl)
    · rename_i he
      rw [Int.toNat_natCast] at he ⊢
      rw [if_pos he] at e
      rw [e] at h2
      exact h2 _ _ _ _
    · rename_i he
      rw [Int.toNat_natCast] at he
      rw [if_neg (fun h => h he)] at e
      rw [e] at h1 h2
      exact LQn (loop18 C rows l hL hl a0 r (i + 1) _ _ _ (by omega) h1 h2)
theorem w18 (C : C18 M) (rows : Int) (l : List Str) (hL : ∀ s ∈ l, s.length < 4611686018427387904) (hl : l.length < 1000000) : Run M 18 [.agg [.int .i64 rows, .vs (strs l) l.length cap]] [] ⟨.int .i64 (imgE rows l), [], []⟩ := by
  refine run_of_W (by rw [C.ft]; exact ft18) (by simp) ?_
  have hc := C.c87 rows 1 64
  unfold b18
  simp only [List.map_cons, List.map_nil, List.getElem?_cons_zero, List.getElem?_cons_succ, List.getElem?_nil, Option.getD_some, Option.getD_none]
  cases ho : outI rows 1 64
  all_goals rw [ho] at hc
  · repeat' first | apply W.seq | apply SQn | apply W.region | apply WO.nil | apply W.block | apply W.ret | apply W.exit | apply W.skip | apply SQr | apply SQe | apply BQn | apply BQr | apply BQe | (apply BQo; exact rfl) | apply LQe | apply LQr | (apply W.condT; exact rfl) | (apply W.condF; exact rfl) | (apply W.cond; exact rfl; all_goals intro _) | (apply WO.gtr; exact rfl; exact rfl; all_goals first | (intro _; exfalso; omega) | intro _) | (apply WO.eql; exact rfl; exact rfl; all_goals first | (intro _; exfalso; omega) | intro _) | (apply WO.cll; exact rfl; exact rfl; first | exact hc _) | (apply WO.seql; exact rfl; exact rfl; all_goals first | (intro h; exact absurd h (by decide)) | (intro h; exact absurd rfl h) | (intro h; contradiction) | intro _) | (apply WO.clb; exact rfl; exact rfl; exact rfl; all_goals first | (intro h; exact absurd h (by decide)) | intro _) | (apply WO.cll; exact rfl; exact rfl; exact rfl) | (apply WO.hlv; exact rfl; exact rfl; exact rfl) | (apply WO.hpv; exact rfl; exact rfl; exact rfl) | (apply WO.hnv; exact rfl; exact rfl; exact rfl) | (apply WO.pl; exact rfl; exact rfl) | (apply WO.pp; exact rfl; exact rfl)
    · rename_i h
      exact ⟨.inr rfl, rfl, _, rfl, by rw [imgE, headE, ho]; simp [show l.length = 0 by omega, tupA], rfl⟩
    · rename_i h1 h2
      exact ⟨.inr rfl, rfl, _, rfl, by rw [imgE, headE, ho]; simp [show l.length ≠ 0 by omega, show 4096 < l.length by omega, tupA], rfl⟩
    · rename_i h1 h2
      have hh : headE rows l.length = 0 := by rw [headE, ho]; simp [show l.length ≠ 0 by omega, show ¬ 4096 < l.length by omega]
      refine loop18 C rows l hL hl _ l.length 0 _ _ _ (by omega) (fun h a4 lo wr => ?_) (fun a3 a4 lo wr => ?_)
      · repeat' first | apply W.seq | apply SQn | apply W.region | apply WO.nil | apply W.block | apply W.ret | apply W.exit | apply W.skip | apply SQr | apply SQe | apply BQn | apply BQr | apply BQe | (apply BQo; exact rfl) | apply LQe | apply LQr | (apply W.condT; exact rfl) | (apply W.condF; exact rfl) | (apply W.cond; exact rfl; all_goals intro _) | (apply WO.gtr; exact rfl; exact rfl; all_goals first | (intro _; exfalso; omega) | intro _) | (apply WO.eql; exact rfl; exact rfl; all_goals first | (intro _; exfalso; omega) | intro _) | (apply WO.seql; exact rfl; exact rfl; all_goals first | (intro h; exact absurd h (by decide)) | (intro h; exact absurd rfl h) | (intro h; contradiction) | intro _) | (apply WO.clb; exact rfl; exact rfl; exact rfl; all_goals first | (intro h; exact absurd h (by decide)) | intro _) | (apply WO.cll; exact rfl; exact rfl; exact rfl) | (apply WO.hlv; exact rfl; exact rfl; exact rfl) | (apply WO.hpv; exact rfl; exact rfl; exact rfl) | (apply WO.hnv; exact rfl; exact rfl; exact rfl) | (apply WO.pl; exact rfl; exact rfl) | (apply WO.pp; exact rfl; exact rfl)
        rw [List.drop_zero] at h
        exact ⟨.inr rfl, rfl, _, rfl, by rw [imgE, hh, h]; rfl, rfl⟩
      · repeat' first | apply W.seq | apply SQn | apply W.region | apply WO.nil | apply W.block | apply W.ret | apply W.exit | apply W.skip | apply SQr | apply SQe | apply BQn | apply BQr | apply BQe | (apply BQo; exact rfl) | apply LQe | apply LQr | (apply W.condT; exact rfl) | (apply W.condF; exact rfl) | (apply W.cond; exact rfl; all_goals intro _) | (apply WO.gtr; exact rfl; exact rfl; all_goals first | (intro _; exfalso; omega) | intro _) | (apply WO.eql; exact rfl; exact rfl; all_goals first | (intro _; exfalso; omega) | intro _) | (apply WO.seql; exact rfl; exact rfl; all_goals first | (intro h; exact absurd h (by decide)) | (intro h; exact absurd rfl h) | (intro h; contradiction) | intro _) | (apply WO.clb; exact rfl; exact rfl; exact rfl; all_goals first | (intro h; exact absurd h (by decide)) | intro _) | (apply WO.cll; exact rfl; exact rfl; exact rfl) | (apply WO.hlv; exact rfl; exact rfl; exact rfl) | (apply WO.hpv; exact rfl; exact rfl; exact rfl) | (apply WO.hnv; exact rfl; exact rfl; exact rfl) | (apply WO.pl; exact rfl; exact rfl) | (apply WO.pp; exact rfl; exact rfl)
        rw [List.drop_zero]
        exact ⟨.inr rfl, rfl, _, rfl, by rw [imgE, hh]; rfl, rfl⟩
  · repeat' first | apply W.seq | apply SQn | apply W.region | apply WO.nil | apply W.block | apply W.ret | apply W.exit | apply W.skip | apply SQr | apply SQe | apply BQn | apply BQr | apply BQe | (apply BQo; exact rfl) | apply LQe | apply LQr | (apply W.condT; exact rfl) | (apply W.condF; exact rfl) | (apply W.cond; exact rfl; all_goals intro _) | (apply WO.gtr; exact rfl; exact rfl; all_goals first | (intro _; exfalso; omega) | intro _) | (apply WO.eql; exact rfl; exact rfl; all_goals first | (intro _; exfalso; omega) | intro _) | (apply WO.cll; exact rfl; exact rfl; first | exact hc _) | (apply WO.seql; exact rfl; exact rfl; all_goals first | (intro h; exact absurd h (by decide)) | (intro h; exact absurd rfl h) | (intro h; contradiction) | intro _) | (apply WO.clb; exact rfl; exact rfl; exact rfl; all_goals first | (intro h; exact absurd h (by decide)) | intro _) | (apply WO.cll; exact rfl; exact rfl; exact rfl) | (apply WO.hlv; exact rfl; exact rfl; exact rfl) | (apply WO.hpv; exact rfl; exact rfl; exact rfl) | (apply WO.hnv; exact rfl; exact rfl; exact rfl) | (apply WO.pl; exact rfl; exact rfl) | (apply WO.pp; exact rfl; exact rfl)
    exact ⟨.inr rfl, rfl, _, rfl, by rw [imgE, headE, ho]; rfl, rfl⟩

/-! The program. -/
structure C70 (M : Mach) : Prop where
  ft : M.FT = FT
  c91 : ∀ t e h, M.ext 91 [.bool t, .int .i64 e] h = some ⟨.int .i64 (if t then e else 0), h, []⟩
  c121 : ∀ x lo hi h, M.ext 121 [.int .i64 x, .int .i64 lo, .int .i64 hi] h = some ⟨.int .i64 (if outI x lo hi then 3 else 0), h, []⟩
  c90 : ∀ v l h, intsAt h v = some l → l.length < 4611686018427387904 → M.ext 90 [v] h = some ⟨.int .i64 (firstNZ l), h, []⟩
  c153 : ∀ s h, s.length < 4611686018427387904 → M.ext 153 [.str s] h = some ⟨.bool (s.all pixB), h, []⟩
theorem ints_at' {h : Heap} {b n : Nat} {cap : Option Nat} {l : List Int} {e : TypeId} (hb : h.at b = some (.cells (ints l) e)) (hl : l.length = n) : intsAt h (.sl b 0 n 1 cap) = some l := by
  subst hl
  have e0 : (ints l).length = l.length := (arr_length (f := fun x : Int => [AV.int .i64 x]) (esz := 1) (fun _ => rfl) l).trans (Nat.mul_one _)
  have e1 : cut (ints l) 0 (l.length * 1) = some (ints l) := by
    rw [Nat.mul_one, ← e0]; simp [cut]
  simp only [intsAt, cellsAt, hb, e1, Option.map_some, decInts_ints]
  simp
theorem C70.q2 (C : C70 M) (H : Heap) (a b : Int) : M.ext 90 [.sl H.length 0 2 1 (some 2)] (H ++ [some (.cells [.int .i64 a, .int .i64 b] 28)]) = some ⟨.int .i64 (firstNZ [a, b]), H ++ [some (.cells [.int .i64 a, .int .i64 b] 28)], []⟩ := by
  have e : Heap.at (H ++ [some (.cells [.int .i64 a, .int .i64 b] 28)]) H.length = some (.cells (ints [a, b]) 28) := at_new
  exact C.c90 _ [a, b] _ (ints_at' e rfl) (by simp)
theorem C70.q3 (C : C70 M) (H : Heap) (a b c : Int) : M.ext 90 [.sl H.length 0 3 1 (some 3)] (H ++ [some (.cells [.int .i64 a, .int .i64 b, .int .i64 c] 28)]) = some ⟨.int .i64 (firstNZ [a, b, c]), H ++ [some (.cells [.int .i64 a, .int .i64 b, .int .i64 c] 28)], []⟩ := by
  have e : Heap.at (H ++ [some (.cells [.int .i64 a, .int .i64 b, .int .i64 c] 28)]) H.length = some (.cells (ints [a, b, c]) 28) := at_new
  exact C.c90 _ [a, b, c] _ (ints_at' e rfl) (by simp)
theorem col_first (rows : Int) (s : Str) : firstNZ [if decide (¬ (s.length : Int) = rows) = true then 2 else 0, if (!s.all pixB) = true then 1 else 0] = colE rows s := by
  unfold colE
  by_cases h : (s.length : Int) = rows <;> cases hp : s.all pixB <;> simp [firstNZ, h]
theorem head_first (rows : Int) (n : Nat) : firstNZ [if outI rows 1 64 = true then 3 else 0, if decide ((n : Int) = 0) = true then 12 else 0, if decide ((n : Int) > 4096) = true then 5 else 0] = headE rows n := by
  unfold headE
  cases ho : outI rows 1 64
  · by_cases h0 : n = 0
    · simp [firstNZ, h0]
    · by_cases hm : 4096 < n
      · simp [firstNZ, h0, hm, show (4096 : Int) < n by omega]
      · simp [firstNZ, h0, hm, show ¬ (4096 : Int) < n by omega]
  · simp [firstNZ]
theorem loop70 (C : C70 M) (rows : Int) (l : List Str) (hL : ∀ s ∈ l, s.length < 4611686018427387904) (hl : l.length < 1000000) (a0 a3 : AV) {Q : Ex → StW → Prop} : ∀ (r i : Nat) (a4 a5 : AV) (H : Heap) (lo : List (Nat × AV)) (wr : List Nat), i + r = l.length → H.at 0 = some (.cells [.int .i64 rows, .vs (strs l) l.length cap] 24) →
    (colsE rows (l.drop i) = 0 → ∀ a4 a5 H lo wr, Q (.exit 0) ⟨⟨[a0, .ptr 0 0, .int .i64 0, a3, a4, a5, .vs (strs l) l.length cap, .int .i64 l.length, .int .i64 l.length], lo, H, []⟩, wr⟩) →
    (∀ a4 a5 a8 H lo wr, Q .ret ⟨⟨[a0, .ptr 0 0, .int .i64 (colsE rows (l.drop i)), a3, a4, a5, .vs (strs l) l.length cap, .int .i64 l.length, a8], lo, H, []⟩, wr⟩) →
    W M (.loop b70_0) ⟨⟨[a0, .ptr 0 0, .int .i64 0, a3, a4, a5, .vs (strs l) l.length cap, .int .i64 l.length, .int .i64 i], lo, H, []⟩, wr⟩ Q
  | 0, i, a4, a5, H, lo, wr, hi, hb, h1, h2 => by
    obtain rfl : i = l.length := by omega
    refine W.loop ?_
    unfold b70_0
    repeat' first | apply W.seq | apply SQn | apply W.region | apply WO.nil | apply W.block | apply W.ret | apply W.exit | apply W.skip | apply SQr | apply SQe | apply BQn | apply BQr | apply BQe | (apply BQo; exact rfl) | apply LQe | apply LQr | (apply W.condT; exact rfl) | (apply W.condF; exact rfl) | (apply W.cond; exact rfl; all_goals intro _) | (apply WO.lss; exact rfl; exact rfl; all_goals first | (intro _; exfalso; omega) | intro _) | (apply WO.neq; exact rfl; exact rfl; all_goals first | (intro _; exfalso; omega) | intro _) | (apply WO.add; exact rfl; exact rfl; omega) | (apply WO.iav; exact rfl; exact rfl; omega) | (apply WO.ias; exact rfl; exact rfl; omega) | (apply WO.lda; exact rfl; exact fun _ => rfl; (first | omega | (simp only [List.length_set]; omega) | (simp; omega)); decide; exact rfl; case ia => infer_instance) | (apply WO.lsa; exact rfl; (first | exact rfl | assumption | exact at_new | (apply at_old; assumption) | (apply at_put; first | assumption | (simp only [put_length]; assumption))); exact fun _ => rfl; (first | omega | (simp only [List.length_set]; omega) | (simp; omega)); decide; exact rfl; case ia => infer_instance) | (apply WO.ldf; exact rfl; exact fun _ => rfl; (first | omega | (simp only [List.length_set]; omega) | (simp; omega)); decide; exact rfl; case ia => infer_instance) | (apply WO.lsf; exact rfl; (first | exact rfl | assumption | exact at_new | (apply at_old; assumption) | (apply at_put; first | assumption | (simp only [put_length]; assumption))); exact fun _ => rfl; (first | omega | (simp only [List.length_set]; omega) | (simp; omega)); decide; exact rfl; case ia => infer_instance) | (apply WO.sneq; exact rfl; exact rfl; all_goals first | (intro h; exact absurd h (by decide)) | (intro h; exact absurd rfl h) | (intro h; contradiction) | intro _) | (apply WO.clb; exact rfl; exact rfl; exact rfl; all_goals first | (intro h; exact absurd h (by decide)) | intro _) | (apply WO.cll; exact rfl; exact rfl; exact rfl) | (apply WO.hlv; exact rfl; exact rfl; exact rfl) | (apply WO.hpv; exact rfl; exact rfl; exact rfl) | (apply WO.hnv; exact rfl; exact rfl; exact rfl) | (apply WO.pl; exact rfl; exact rfl) | (apply WO.pp; exact rfl; exact rfl)
    exact h1 (by simp [colsE]) _ _ _ _ _
  | r + 1, i, a4, a5, H, lo, wr, hi, hb, h1, h2 => by
    have e := colsE_drop (rows := rows) (l := l) (i := (i : Int).toNat) (by omega)
    rw [Int.toNat_natCast] at e
    have hc := fun h => C.c153 l[((i : Int)).toNat]! h (short_get hL (by omega))
    have hf := col_first rows l[((i : Int)).toNat]!
    have q := C.q2 H (if decide (¬ ((l[((i : Int)).toNat]!).length : Int) = rows) = true then 2 else 0) (if (!(l[((i : Int)).toNat]!).all pixB) = true then 1 else 0)
    rw [hf] at q
    refine W.loop ?_
    by_cases hr : ((l[((i : Int)).toNat]!).length : Int) = rows
    · rw [decide_eq_false (fun h => h hr)] at q
      cases hp : (l[((i : Int)).toNat]!).all pixB
      all_goals
        rw [hp] at q hc
        unfold b70_0
        repeat' first | (apply WO.ldb; exact rfl; exact hb; exact rfl) | apply W.seq | apply SQn | apply W.region | apply WO.nil | apply W.block | apply W.ret | apply W.exit | apply W.skip | apply SQr | apply SQe | apply BQn | apply BQr | apply BQe | (apply BQo; exact rfl) | apply LQe | apply LQr | (apply W.condT; exact rfl) | (apply W.condF; exact rfl) | (apply W.cond; exact rfl; all_goals intro _) | (apply WO.lss; exact rfl; exact rfl; all_goals first | (intro _; exfalso; omega) | intro _) | (apply WO.neq; exact rfl; exact rfl; all_goals first | (intro _; exfalso; omega) | intro _) | (apply WO.add; exact rfl; exact rfl; omega) | (apply WO.cll; exact rfl; exact rfl; first | exact C.c91 _ _ _ | exact hc _ | exact q) | (apply WO.iav; exact rfl; exact rfl; omega) | (apply WO.ias; exact rfl; exact rfl; omega) | (apply WO.lda; exact rfl; exact fun _ => rfl; (first | omega | (simp only [List.length_set]; omega) | (simp; omega)); decide; exact rfl; case ia => infer_instance) | (apply WO.lsa; exact rfl; (first | exact rfl | assumption | exact at_new | (apply at_old; assumption) | (apply at_put; first | assumption | (simp only [put_length]; assumption))); exact fun _ => rfl; (first | omega | (simp only [List.length_set]; omega) | (simp; omega)); decide; exact rfl; case ia => infer_instance) | (apply WO.ldf; exact rfl; exact fun _ => rfl; (first | omega | (simp only [List.length_set]; omega) | (simp; omega)); decide; exact rfl; case ia => infer_instance) | (apply WO.lsf; exact rfl; (first | exact rfl | assumption | exact at_new | (apply at_old; assumption) | (apply at_put; first | assumption | (simp only [put_length]; assumption))); exact fun _ => rfl; (first | omega | (simp only [List.length_set]; omega) | (simp; omega)); decide; exact rfl; case ia => infer_instance) | (apply WO.sneq; exact rfl; exact rfl; all_goals first | (intro h; exact absurd h (by decide)) | (intro h; exact absurd rfl h) | (intro h; contradiction) | intro _) | (apply WO.clb; exact rfl; exact rfl; exact rfl; all_goals first | (intro h; exact absurd h (by decide)) | intro _) | (apply WO.cll; exact rfl; exact rfl; exact rfl) | (apply WO.hlv; exact rfl; exact rfl; exact rfl) | (apply WO.hpv; exact rfl; exact rfl; exact rfl) | (apply WO.hnv; exact rfl; exact rfl; exact rfl) | (apply WO.pl; exact rfl; exact rfl) | (apply WO.pp; exact rfl; exact rfl)
      all_goals
        rename_i he
        rw [Int.toNat_natCast] at he
        first | rw [if_pos he] at e | rw [if_neg (Decidable.not_not.2 he)] at e
        rw [e] at h1 h2
      all_goals first | (rw [Int.toNat_natCast]; exact h2 _ _ _ _ _ _) | exact LQn (loop70 C rows l hL hl a0 a3 r (i + 1) _ _ _ _ _ (by omega) (at_old hb) h1 h2)
    · rw [decide_eq_true hr] at q
      cases hp : (l[((i : Int)).toNat]!).all pixB
      all_goals
        rw [hp] at q hc
        unfold b70_0
        repeat' first | (apply WO.ldb; exact rfl; exact hb; exact rfl) | apply W.seq | apply SQn | apply W.region | apply WO.nil | apply W.block | apply W.ret | apply W.exit | apply W.skip | apply SQr | apply SQe | apply BQn | apply BQr | apply BQe | (apply BQo; exact rfl) | apply LQe | apply LQr | (apply W.condT; exact rfl) | (apply W.condF; exact rfl) | (apply W.cond; exact rfl; all_goals intro _) | (apply WO.lss; exact rfl; exact rfl; all_goals first | (intro _; exfalso; omega) | intro _) | (apply WO.neq; exact rfl; exact rfl; all_goals first | (intro _; exfalso; omega) | intro _) | (apply WO.add; exact rfl; exact rfl; omega) | (apply WO.cll; exact rfl; exact rfl; first | exact C.c91 _ _ _ | exact hc _ | exact q) | (apply WO.iav; exact rfl; exact rfl; omega) | (apply WO.ias; exact rfl; exact rfl; omega) | (apply WO.lda; exact rfl; exact fun _ => rfl; (first | omega | (simp only [List.length_set]; omega) | (simp; omega)); decide; exact rfl; case ia => infer_instance) | (apply WO.lsa; exact rfl; (first | exact rfl | assumption | exact at_new | (apply at_old; assumption) | (apply at_put; first | assumption | (simp only [put_length]; assumption))); exact fun _ => rfl; (first | omega | (simp only [List.length_set]; omega) | (simp; omega)); decide; exact rfl; case ia => infer_instance) | (apply WO.ldf; exact rfl; exact fun _ => rfl; (first | omega | (simp only [List.length_set]; omega) | (simp; omega)); decide; exact rfl; case ia => infer_instance) | (apply WO.lsf; exact rfl; (first | exact rfl | assumption | exact at_new | (apply at_old; assumption) | (apply at_put; first | assumption | (simp only [put_length]; assumption))); exact fun _ => rfl; (first | omega | (simp only [List.length_set]; omega) | (simp; omega)); decide; exact rfl; case ia => infer_instance) | (apply WO.sneq; exact rfl; exact rfl; all_goals first | (intro h; exact absurd h (by decide)) | (intro h; exact absurd rfl h) | (intro h; contradiction) | intro _) | (apply WO.clb; exact rfl; exact rfl; exact rfl; all_goals first | (intro h; exact absurd h (by decide)) | intro _) | (apply WO.cll; exact rfl; exact rfl; exact rfl) | (apply WO.hlv; exact rfl; exact rfl; exact rfl) | (apply WO.hpv; exact rfl; exact rfl; exact rfl) | (apply WO.hnv; exact rfl; exact rfl; exact rfl) | (apply WO.pl; exact rfl; exact rfl) | (apply WO.pp; exact rfl; exact rfl)
      all_goals
        rename_i he
        rw [Int.toNat_natCast] at he
        first | rw [if_pos he] at e | rw [if_neg (Decidable.not_not.2 he)] at e
        rw [e] at h1 h2
      all_goals first | (rw [Int.toNat_natCast]; exact h2 _ _ _ _ _ _) | exact LQn (loop70 C rows l hL hl a0 a3 r (i + 1) _ _ _ _ _ (by omega) (at_old hb) h1 h2)
theorem w70 (C : C70 M) (rows : Int) (l : List Str) (hL : ∀ s ∈ l, s.length < 4611686018427387904) (hl : l.length < 1000000) : Run M 70 [.agg [.int .i64 rows, .vs (strs l) l.length cap]] [] ⟨.int .i64 (imgE rows l), [], []⟩ := by
  refine run_of_W (by rw [C.ft]; exact ft70) (by simp) ?_
  have hf := head_first rows l.length
  have q := C.q3 [some (.cells [.int .i64 rows, .vs (strs l) l.length cap] 24)] (if outI rows 1 64 = true then 3 else 0) (if decide ((l.length : Int) = 0) = true then 12 else 0) (if decide ((l.length : Int) > 4096) = true then 5 else 0)
  rw [hf] at q
  unfold b70
  simp only [List.map_cons, List.map_nil, List.getElem?_cons_zero, List.getElem?_cons_succ, List.getElem?_nil, Option.getD_some, Option.getD_none]
  by_cases h0 : (l.length : Int) = 0 <;> by_cases hm : (l.length : Int) > 4096
  all_goals try (exfalso; omega)
  all_goals
    first | rw [decide_eq_true h0] at q | rw [decide_eq_false h0] at q
    first | rw [decide_eq_true hm] at q | rw [decide_eq_false hm] at q
    repeat' first | apply W.seq | apply SQn | apply W.region | apply WO.nil | apply W.block | apply W.ret | apply W.exit | apply W.skip | apply SQr | apply SQe | apply BQn | apply BQr | apply BQe | (apply BQo; exact rfl) | apply LQe | apply LQr | (apply W.drawro; exact rfl) | apply W.draw | apply WD.nil | (apply WD.gT; exact rfl) | (apply WD.gF; exact rfl) | (apply WD.sT; exact rfl) | (apply WD.sF; exact rfl) | (apply WD.sU; exact rfl) | (apply WD.pure1; exact rfl) | (apply WD.load1; exact rfl; exact rfl; exact rfl) | (apply WD.new1; exact rfl) | (apply WD.clb; exact rfl; exact rfl; exact rfl; exact rfl; all_goals first | (intro h; exact absurd h (by decide)) | intro _) | (apply WD.cl0; exact rfl; exact rfl; exact rfl; exact rfl) | (apply WD.cl1; exact rfl; exact rfl; exact rfl; exact rfl) | (apply W.condT; exact rfl) | (apply W.condF; exact rfl) | (apply W.cond; exact rfl; all_goals intro _) | (apply WO.gtr; exact rfl; exact rfl; all_goals first | (intro _; exfalso; omega) | intro _) | (apply WO.eql; exact rfl; exact rfl; all_goals first | (intro _; exfalso; omega) | intro _) | (apply WO.neq; exact rfl; exact rfl; all_goals first | (intro _; exfalso; omega) | intro _) | (apply WO.cll; exact rfl; exact rfl; first | exact C.c91 _ _ _ | exact C.c121 _ _ _ _ | exact q) | (apply WD.cl0; exact rfl; exact rfl; exact rfl; first | exact C.c91 _ _ _ | exact C.c121 _ _ _ _ | exact q) | (apply WO.seql; exact rfl; exact rfl; all_goals first | (intro h; exact absurd h (by decide)) | (intro h; exact absurd rfl h) | (intro h; contradiction) | intro _) | (apply WO.sneq; exact rfl; exact rfl; all_goals first | (intro h; exact absurd h (by decide)) | (intro h; exact absurd rfl h) | (intro h; contradiction) | intro _) | (apply WO.clb; exact rfl; exact rfl; exact rfl; all_goals first | (intro h; exact absurd h (by decide)) | intro _) | (apply WO.cll; exact rfl; exact rfl; exact rfl) | (apply WO.hlv; exact rfl; exact rfl; exact rfl) | (apply WO.hpv; exact rfl; exact rfl; exact rfl) | (apply WO.hnv; exact rfl; exact rfl; exact rfl) | (apply WO.pl; exact rfl; exact rfl) | (apply WO.pp; exact rfl; exact rfl)
  all_goals first
    | (rename_i he; exact ⟨.inr rfl, rfl, _, rfl, by rw [imgE, if_pos he]; rfl, rfl⟩)
    | skip
  all_goals
    rename_i he
    refine loop70 C rows l hL hl _ _ l.length 0 _ _ _ _ _ (by omega) rfl (fun h a4 a5 H lo wr => ?_) (fun a4 a5 a8 H lo wr => ?_)
    · rw [List.drop_zero] at h
      repeat' first | apply W.seq | apply SQn | apply W.region | apply WO.nil | apply W.block | apply W.ret | apply W.exit | apply W.skip | apply SQr | apply SQe | apply BQn | apply BQr | apply BQe | (apply BQo; exact rfl) | apply LQe | apply LQr | (apply W.drawro; exact rfl) | apply W.draw | apply WD.nil | (apply WD.gT; exact rfl) | (apply WD.gF; exact rfl) | (apply WD.sT; exact rfl) | (apply WD.sF; exact rfl) | (apply WD.sU; exact rfl) | (apply WD.pure1; exact rfl) | (apply WD.load1; exact rfl; exact rfl; exact rfl) | (apply WD.new1; exact rfl) | (apply WD.clb; exact rfl; exact rfl; exact rfl; exact rfl; all_goals first | (intro h; exact absurd h (by decide)) | intro _) | (apply WD.cl0; exact rfl; exact rfl; exact rfl; exact rfl) | (apply WD.cl1; exact rfl; exact rfl; exact rfl; exact rfl) | (apply W.condT; exact rfl) | (apply W.condF; exact rfl) | (apply W.cond; exact rfl; all_goals intro _) | (apply WO.gtr; exact rfl; exact rfl; all_goals first | (intro _; exfalso; omega) | intro _) | (apply WO.eql; exact rfl; exact rfl; all_goals first | (intro _; exfalso; omega) | intro _) | (apply WO.neq; exact rfl; exact rfl; all_goals first | (intro _; exfalso; omega) | intro _) | (apply WO.seql; exact rfl; exact rfl; all_goals first | (intro h; exact absurd h (by decide)) | (intro h; exact absurd rfl h) | (intro h; contradiction) | intro _) | (apply WO.sneq; exact rfl; exact rfl; all_goals first | (intro h; exact absurd h (by decide)) | (intro h; exact absurd rfl h) | (intro h; contradiction) | intro _) | (apply WO.clb; exact rfl; exact rfl; exact rfl; all_goals first | (intro h; exact absurd h (by decide)) | intro _) | (apply WO.cll; exact rfl; exact rfl; exact rfl) | (apply WO.hlv; exact rfl; exact rfl; exact rfl) | (apply WO.hpv; exact rfl; exact rfl; exact rfl) | (apply WO.hnv; exact rfl; exact rfl; exact rfl) | (apply WO.pl; exact rfl; exact rfl) | (apply WO.pp; exact rfl; exact rfl)
      exact ⟨.inr rfl, rfl, _, rfl, by rw [imgE, he, h]; rfl, rfl⟩
    · rw [List.drop_zero]
      repeat' first | apply W.seq | apply SQn | apply W.region | apply WO.nil | apply W.block | apply W.ret | apply W.exit | apply W.skip | apply SQr | apply SQe | apply BQn | apply BQr | apply BQe | (apply BQo; exact rfl) | apply LQe | apply LQr | (apply W.drawro; exact rfl) | apply W.draw | apply WD.nil | (apply WD.gT; exact rfl) | (apply WD.gF; exact rfl) | (apply WD.sT; exact rfl) | (apply WD.sF; exact rfl) | (apply WD.sU; exact rfl) | (apply WD.pure1; exact rfl) | (apply WD.load1; exact rfl; exact rfl; exact rfl) | (apply WD.new1; exact rfl) | (apply WD.clb; exact rfl; exact rfl; exact rfl; exact rfl; all_goals first | (intro h; exact absurd h (by decide)) | intro _) | (apply WD.cl0; exact rfl; exact rfl; exact rfl; exact rfl) | (apply WD.cl1; exact rfl; exact rfl; exact rfl; exact rfl) | (apply W.condT; exact rfl) | (apply W.condF; exact rfl) | (apply W.cond; exact rfl; all_goals intro _) | (apply WO.gtr; exact rfl; exact rfl; all_goals first | (intro _; exfalso; omega) | intro _) | (apply WO.eql; exact rfl; exact rfl; all_goals first | (intro _; exfalso; omega) | intro _) | (apply WO.neq; exact rfl; exact rfl; all_goals first | (intro _; exfalso; omega) | intro _) | (apply WO.seql; exact rfl; exact rfl; all_goals first | (intro h; exact absurd h (by decide)) | (intro h; exact absurd rfl h) | (intro h; contradiction) | intro _) | (apply WO.sneq; exact rfl; exact rfl; all_goals first | (intro h; exact absurd h (by decide)) | (intro h; exact absurd rfl h) | (intro h; contradiction) | intro _) | (apply WO.clb; exact rfl; exact rfl; exact rfl; all_goals first | (intro h; exact absurd h (by decide)) | intro _) | (apply WO.cll; exact rfl; exact rfl; exact rfl) | (apply WO.hlv; exact rfl; exact rfl; exact rfl) | (apply WO.hpv; exact rfl; exact rfl; exact rfl) | (apply WO.hnv; exact rfl; exact rfl; exact rfl) | (apply WO.pl; exact rfl; exact rfl) | (apply WO.pp; exact rfl; exact rfl)
      exact ⟨.inr rfl, rfl, _, rfl, by rw [imgE, he]; rfl, rfl⟩
end Go.Ab.Ch5


/-
  Own work: images: the first column of a letter, both ways; short ones.
-/
namespace Go.Ab.Ch5
variable {M : Mach} {cap : Option Nat}

/-! Short, IsAthlete, Outside, checkAthlete. -/
def shortB (l : List Str) : Bool := if (60 < l.length ∧ l.length ≤ 4096) ∨ 4098 < l.length then false else l.all (fun s => decide (s.length ≤ 66))
theorem sh_drop {l : List Str} {i : Nat} (h : i < l.length) : (l.drop i).all (fun s => decide (s.length ≤ 66)) = (decide ((l[i]!).length ≤ 66) && (l.drop (i + 1)).all (fun s => decide (s.length ≤ 66))) := by
  rw [List.drop_eq_getElem_cons h, getElem!_pos l i h, List.all_cons]
theorem loop16 (rows : Int) (l : List Str) (hl : l.length < 1000000) (a0 a2 : AV) {Q : Ex → StW → Prop} : ∀ (r i : Nat) (lo : List (Nat × AV)) (wr : List Nat), i + r = l.length →
    ((l.drop i).all (fun s => decide (s.length ≤ 66)) = true → ∀ lo wr, Q (.exit 0) ⟨⟨[a0, .ptr 0 0, a2, .int .i64 l.length], lo, [some (.cells [.int .i64 rows, .vs (strs l) l.length cap] 25)], []⟩, wr⟩) →
    ((l.drop i).all (fun s => decide (s.length ≤ 66)) = false → ∀ a3 lo wr, Q .ret ⟨⟨[a0, .ptr 0 0, .bool false, a3], lo, [some (.cells [.int .i64 rows, .vs (strs l) l.length cap] 25)], []⟩, wr⟩) →
    W M (.loop b16_0) ⟨⟨[a0, .ptr 0 0, a2, .int .i64 i], lo, [some (.cells [.int .i64 rows, .vs (strs l) l.length cap] 25)], []⟩, wr⟩ Q
  | 0, i, lo, wr, hi, h1, h2 => by
    obtain rfl : i = l.length := by omega
    refine W.loop ?_
    unfold b16_0
    repeat' first | apply W.seq | apply SQn | apply W.region | apply WO.nil | apply W.block | apply W.ret | apply W.exit | apply W.skip | apply SQr | apply SQe | apply BQn | apply BQr | apply BQe | (apply BQo; exact rfl) | apply LQe | apply LQr | (apply W.condT; exact rfl) | (apply W.condF; exact rfl) | (apply W.cond; exact rfl; all_goals intro _) | (apply WO.lss; exact rfl; exact rfl; all_goals first | (intro _; exfalso; omega) | intro _) | (apply WO.gtr; exact rfl; exact rfl; all_goals first | (intro _; exfalso; omega) | intro _) | (apply WO.add; exact rfl; exact rfl; omega) | (apply WO.iav; exact rfl; exact rfl; omega) | (apply WO.ias; exact rfl; exact rfl; omega) | (apply WO.lda; exact rfl; exact fun _ => rfl; (first | omega | (simp only [List.length_set]; omega) | (simp; omega)); decide; exact rfl; case ia => infer_instance) | (apply WO.lsa; exact rfl; (first | exact rfl | assumption | exact at_new | (apply at_old; assumption) | (apply at_put; first | assumption | (simp only [put_length]; assumption))); exact fun _ => rfl; (first | omega | (simp only [List.length_set]; omega) | (simp; omega)); decide; exact rfl; case ia => infer_instance) | (apply WO.ldf; exact rfl; exact fun _ => rfl; (first | omega | (simp only [List.length_set]; omega) | (simp; omega)); decide; exact rfl; case ia => infer_instance) | (apply WO.lsf; exact rfl; (first | exact rfl | assumption | exact at_new | (apply at_old; assumption) | (apply at_put; first | assumption | (simp only [put_length]; assumption))); exact fun _ => rfl; (first | omega | (simp only [List.length_set]; omega) | (simp; omega)); decide; exact rfl; case ia => infer_instance) | (apply WO.hlv; exact rfl; exact rfl; exact rfl) | (apply WO.hpv; exact rfl; exact rfl; exact rfl) | (apply WO.hnv; exact rfl; exact rfl; exact rfl) | (apply WO.pl; exact rfl; exact rfl) | (apply WO.pp; exact rfl; exact rfl)
    exact h1 (by simp) _ _
  | r + 1, i, lo, wr, hi, h1, h2 => by
    have e := sh_drop (l := l) (i := (i : Int).toNat) (by omega)
    rw [Int.toNat_natCast] at e
    refine W.loop ?_
    unfold b16_0
    repeat' first | apply W.seq | apply SQn | apply W.region | apply WO.nil | apply W.block | apply W.ret | apply W.exit | apply W.skip | apply SQr | apply SQe | apply BQn | apply BQr | apply BQe | (apply BQo; exact rfl) | apply LQe | apply LQr | (apply W.condT; exact rfl) | (apply W.condF; exact rfl) | (apply W.cond; exact rfl; all_goals intro _) | (apply WO.lss; exact rfl; exact rfl; all_goals first | (intro _; exfalso; omega) | intro _) | (apply WO.gtr; exact rfl; exact rfl; all_goals first | (intro _; exfalso; omega) | intro _) | (apply WO.add; exact rfl; exact rfl; omega) | (apply WO.iav; exact rfl; exact rfl; omega) | (apply WO.ias; exact rfl; exact rfl; omega) | (apply WO.lda; exact rfl; exact fun _ => rfl; (first | omega | (simp only [List.length_set]; omega) | (simp; omega)); decide; exact rfl; case ia => infer_instance) | (apply WO.lsa; exact rfl; (first | exact rfl | assumption | exact at_new | (apply at_old; assumption) | (apply at_put; first | assumption | (simp only [put_length]; assumption))); exact fun _ => rfl; (first | omega | (simp only [List.length_set]; omega) | (simp; omega)); decide; exact rfl; case ia => infer_instance) | (apply WO.ldf; exact rfl; exact fun _ => rfl; (first | omega | (simp only [List.length_set]; omega) | (simp; omega)); decide; exact rfl; case ia => infer_instance) | (apply WO.lsf; exact rfl; (first | exact rfl | assumption | exact at_new | (apply at_old; assumption) | (apply at_put; first | assumption | (simp only [put_length]; assumption))); exact fun _ => rfl; (first | omega | (simp only [List.length_set]; omega) | (simp; omega)); decide; exact rfl; case ia => infer_instance) | (apply WO.hlv; exact rfl; exact rfl; exact rfl) | (apply WO.hpv; exact rfl; exact rfl; exact rfl) | (apply WO.hnv; exact rfl; exact rfl; exact rfl) | (apply WO.pl; exact rfl; exact rfl) | (apply WO.pp; exact rfl; exact rfl)
    · rename_i he
      rw [Int.toNat_natCast] at he
      rw [decide_eq_false (by omega), Bool.false_and] at e
      exact h2 e _ _ _
    · rename_i he
      rw [Int.toNat_natCast] at he
      rw [decide_eq_true (by omega), Bool.true_and] at e
      rw [e] at h1 h2
      exact LQn (loop16 rows l hl a0 a2 r (i + 1) _ _ (by omega) h1 h2)
theorem w16 (hft : M.FT = FT) (rows : Int) (l : List Str) : Run M 16 [.agg [.int .i64 rows, .vs (strs l) l.length cap]] [] ⟨.bool (shortB l), [], []⟩ := by
  refine run_of_W (by rw [hft]; exact ft16) (by simp) ?_
  unfold b16
  simp only [List.map_cons, List.map_nil, List.getElem?_cons_zero, List.getElem?_cons_succ, List.getElem?_nil, Option.getD_some, Option.getD_none]
  by_cases hs : (60 < l.length ∧ l.length ≤ 4096) ∨ 4098 < l.length
  · repeat' first | apply W.seq | apply SQn | apply W.region | apply WO.nil | apply W.block | apply W.ret | apply W.exit | apply W.skip | apply SQr | apply SQe | apply BQn | apply BQr | apply BQe | (apply BQo; exact rfl) | apply LQe | apply LQr | (apply W.condT; exact rfl) | (apply W.condF; exact rfl) | (apply W.cond; exact rfl; all_goals intro _) | (apply WO.gT; exact rfl) | (apply WO.gF; exact rfl) | (apply WO.sT; exact rfl) | (apply WO.sF; exact rfl) | (apply WO.sU; exact rfl) | (apply WO.leq; exact rfl; exact rfl; all_goals first | (intro _; exfalso; omega) | intro _) | (apply WO.gtr; exact rfl; exact rfl; all_goals first | (intro _; exfalso; omega) | intro _) | (apply WO.pkT; exact rfl; exact rfl) | (apply WO.pkF; exact rfl; exact rfl) | (apply WO.hlv; exact rfl; exact rfl; exact rfl) | (apply WO.hpv; exact rfl; exact rfl; exact rfl) | (apply WO.hnv; exact rfl; exact rfl; exact rfl) | (apply WO.pl; exact rfl; exact rfl) | (apply WO.pp; exact rfl; exact rfl)
    all_goals exact ⟨.inr rfl, rfl, _, rfl, by rw [shortB, if_pos hs]; rfl, rfl⟩
  · repeat' first | apply W.seq | apply SQn | apply W.region | apply WO.nil | apply W.block | apply W.ret | apply W.exit | apply W.skip | apply SQr | apply SQe | apply BQn | apply BQr | apply BQe | (apply BQo; exact rfl) | apply LQe | apply LQr | (apply W.condT; exact rfl) | (apply W.condF; exact rfl) | (apply W.cond; exact rfl; all_goals intro _) | (apply WO.gT; exact rfl) | (apply WO.gF; exact rfl) | (apply WO.sT; exact rfl) | (apply WO.sF; exact rfl) | (apply WO.sU; exact rfl) | (apply WO.leq; exact rfl; exact rfl; all_goals first | (intro _; exfalso; omega) | intro _) | (apply WO.gtr; exact rfl; exact rfl; all_goals first | (intro _; exfalso; omega) | intro _) | (apply WO.pkT; exact rfl; exact rfl) | (apply WO.pkF; exact rfl; exact rfl) | (apply WO.hlv; exact rfl; exact rfl; exact rfl) | (apply WO.hpv; exact rfl; exact rfl; exact rfl) | (apply WO.hnv; exact rfl; exact rfl; exact rfl) | (apply WO.pl; exact rfl; exact rfl) | (apply WO.pp; exact rfl; exact rfl)
    all_goals
      refine loop16 rows l (by omega) _ _ l.length 0 _ _ (by omega) (fun h lo wr => ?_) (fun h a3 lo wr => ?_)
      · rw [List.drop_zero] at h
        repeat' first | apply W.seq | apply SQn | apply W.region | apply WO.nil | apply W.block | apply W.ret | apply W.exit | apply W.skip | apply SQr | apply SQe | apply BQn | apply BQr | apply BQe | (apply BQo; exact rfl) | apply LQe | apply LQr | (apply W.condT; exact rfl) | (apply W.condF; exact rfl) | (apply W.cond; exact rfl; all_goals intro _) | (apply WO.gT; exact rfl) | (apply WO.gF; exact rfl) | (apply WO.sT; exact rfl) | (apply WO.sF; exact rfl) | (apply WO.sU; exact rfl) | (apply WO.leq; exact rfl; exact rfl; all_goals first | (intro _; exfalso; omega) | intro _) | (apply WO.gtr; exact rfl; exact rfl; all_goals first | (intro _; exfalso; omega) | intro _) | (apply WO.pkT; exact rfl; exact rfl) | (apply WO.pkF; exact rfl; exact rfl) | (apply WO.hlv; exact rfl; exact rfl; exact rfl) | (apply WO.hpv; exact rfl; exact rfl; exact rfl) | (apply WO.hnv; exact rfl; exact rfl; exact rfl) | (apply WO.pl; exact rfl; exact rfl) | (apply WO.pp; exact rfl; exact rfl)
        exact ⟨.inr rfl, rfl, _, rfl, by rw [shortB, if_neg hs, h]; rfl, rfl⟩
      · rw [List.drop_zero] at h
        repeat' first | apply W.seq | apply SQn | apply W.region | apply WO.nil | apply W.block | apply W.ret | apply W.exit | apply W.skip | apply SQr | apply SQe | apply BQn | apply BQr | apply BQe | (apply BQo; exact rfl) | apply LQe | apply LQr | (apply W.condT; exact rfl) | (apply W.condF; exact rfl) | (apply W.cond; exact rfl; all_goals intro _) | (apply WO.gT; exact rfl) | (apply WO.gF; exact rfl) | (apply WO.sT; exact rfl) | (apply WO.sF; exact rfl) | (apply WO.sU; exact rfl) | (apply WO.leq; exact rfl; exact rfl; all_goals first | (intro _; exfalso; omega) | intro _) | (apply WO.gtr; exact rfl; exact rfl; all_goals first | (intro _; exfalso; omega) | intro _) | (apply WO.pkT; exact rfl; exact rfl) | (apply WO.pkF; exact rfl; exact rfl) | (apply WO.hlv; exact rfl; exact rfl; exact rfl) | (apply WO.hpv; exact rfl; exact rfl; exact rfl) | (apply WO.hnv; exact rfl; exact rfl; exact rfl) | (apply WO.pl; exact rfl; exact rfl) | (apply WO.pp; exact rfl; exact rfl)
        exact ⟨.inr rfl, rfl, _, rfl, by rw [shortB, if_neg hs, h]; rfl, rfl⟩
theorem w59 (hft : M.FT = FT) (c87 : ∀ x lo hi h, M.ext 87 [.int .i64 x, .int .i64 lo, .int .i64 hi] h = some ⟨.bool (outI x lo hi), h, []⟩) (x lo hi : Int) : Run M 59 [.int .i64 x, .int .i64 lo, .int .i64 hi] [] ⟨.int .i64 (if outI x lo hi then 3 else 0), [], []⟩ := by
  have hc := c87 x lo hi
  refine run_of_W (by rw [hft]; exact ft59) (by simp) ?_
  unfold b59
  simp only [List.map_cons, List.map_nil, List.getElem?_cons_zero, List.getElem?_cons_succ, List.getElem?_nil, Option.getD_some, Option.getD_none]
  cases ho : outI x lo hi
  all_goals
    rw [ho] at hc
    repeat' first | apply W.seq | apply SQn | apply W.region | apply WO.nil | apply W.block | apply W.ret | apply W.exit | apply W.skip | apply SQr | apply SQe | apply BQn | apply BQr | apply BQe | (apply BQo; exact rfl) | apply LQe | apply LQr | (apply W.condT; exact rfl) | (apply W.condF; exact rfl) | (apply W.cond; exact rfl; all_goals intro _) | (apply WO.cll; exact rfl; exact rfl; first | exact hc _) | (apply WO.clb; exact rfl; exact rfl; exact rfl; all_goals first | (intro h; exact absurd h (by decide)) | intro _) | (apply WO.cll; exact rfl; exact rfl; exact rfl) | (apply WO.pl; exact rfl; exact rfl) | (apply WO.pp; exact rfl; exact rfl)
    exact ⟨.inr rfl, rfl, _, rfl, rfl, rfl⟩
/-- The letter of an athlete, or nothing. -/
def athOf : Str → Option UInt8
  | [b] => if 65 ≤ b.toNat ∧ b.toNat ≤ 90 then some b else none
  | _ => none
theorem w27 (hft : M.FT = FT) (s : Str) : Run M 27 [.str s] [] ⟨.bool (athOf s).isSome, [], []⟩ := by
  refine run_of_W (by rw [hft]; exact ft27) (by simp) ?_
  unfold b27
  simp only [List.map_cons, List.map_nil, List.getElem?_cons_zero, List.getElem?_cons_succ, List.getElem?_nil, Option.getD_some, Option.getD_none]
  match s with
  | [] =>
    have hn : (([] : Str).length : Int) ≠ 1 := by simp
    repeat' first | apply W.seq | apply SQn | apply W.region | apply WO.nil | apply W.block | apply W.ret | apply W.exit | apply W.skip | apply SQr | apply SQe | apply BQn | apply BQr | apply BQe | (apply BQo; exact rfl) | apply LQe | apply LQr | (apply W.condT; exact rfl) | (apply W.condF; exact rfl) | (apply W.cond; exact rfl; all_goals intro _) | (apply WO.gT; exact rfl) | (apply WO.gF; exact rfl) | (apply WO.sT; exact rfl) | (apply WO.sF; exact rfl) | (apply WO.sU; exact rfl) | (apply WO.leq; exact rfl; exact rfl; all_goals first | (intro _; exfalso; omega) | intro _) | (apply WO.geq; exact rfl; exact rfl; all_goals first | (intro _; exfalso; omega) | intro _) | (apply WO.eql; exact rfl; exact rfl; all_goals first | (intro _; exfalso; omega) | intro _) | (apply WO.pkT; exact rfl; exact rfl) | (apply WO.pkF; exact rfl; exact rfl) | (apply WO.idx; exact rfl; exact rfl; omega) | (apply WO.seql; exact rfl; exact rfl; all_goals first | (intro h; exact absurd h (by decide)) | (intro h; exact absurd rfl h) | (intro h; contradiction) | intro _) | (apply WO.pl; exact rfl; exact rfl) | (apply WO.pp; exact rfl; exact rfl)
    exact ⟨.inr rfl, rfl, _, rfl, rfl, rfl⟩
  | [b] =>
    have e : ((([b] : Str)[(0 : Int).toNat]!).toNat : Int) = (b.toNat : Int) := rfl
    have hn : (([b] : Str).length : Int) = 1 := rfl
    repeat' first | apply W.seq | apply SQn | apply W.region | apply WO.nil | apply W.block | apply W.ret | apply W.exit | apply W.skip | apply SQr | apply SQe | apply BQn | apply BQr | apply BQe | (apply BQo; exact rfl) | apply LQe | apply LQr | (apply W.condT; exact rfl) | (apply W.condF; exact rfl) | (apply W.cond; exact rfl; all_goals intro _) | (apply WO.gT; exact rfl) | (apply WO.gF; exact rfl) | (apply WO.sT; exact rfl) | (apply WO.sF; exact rfl) | (apply WO.sU; exact rfl) | (apply WO.leq; exact rfl; exact rfl; all_goals first | (intro _; exfalso; omega) | intro _) | (apply WO.geq; exact rfl; exact rfl; all_goals first | (intro _; exfalso; omega) | intro _) | (apply WO.eql; exact rfl; exact rfl; all_goals first | (intro _; exfalso; omega) | intro _) | (apply WO.pkT; exact rfl; exact rfl) | (apply WO.pkF; exact rfl; exact rfl) | (apply WO.idx; exact rfl; exact rfl; omega) | (apply WO.seql; exact rfl; exact rfl; all_goals first | (intro h; exact absurd h (by decide)) | (intro h; exact absurd rfl h) | (intro h; contradiction) | intro _) | (apply WO.pl; exact rfl; exact rfl) | (apply WO.pp; exact rfl; exact rfl)
    all_goals exact ⟨.inr rfl, rfl, _, rfl, congrArg AV.bool (by simp only [athOf]; first | (rw [if_pos (by omega)]; rfl) | (rw [if_neg (by omega)]; rfl)), rfl⟩
  | a :: b :: s =>
    have hn : ((a :: b :: s).length : Int) ≠ 1 := by simp; omega
    repeat' first | apply W.seq | apply SQn | apply W.region | apply WO.nil | apply W.block | apply W.ret | apply W.exit | apply W.skip | apply SQr | apply SQe | apply BQn | apply BQr | apply BQe | (apply BQo; exact rfl) | apply LQe | apply LQr | (apply W.condT; exact rfl) | (apply W.condF; exact rfl) | (apply W.cond; exact rfl; all_goals intro _) | (apply WO.gT; exact rfl) | (apply WO.gF; exact rfl) | (apply WO.sT; exact rfl) | (apply WO.sF; exact rfl) | (apply WO.sU; exact rfl) | (apply WO.leq; exact rfl; exact rfl; all_goals first | (intro _; exfalso; omega) | intro _) | (apply WO.geq; exact rfl; exact rfl; all_goals first | (intro _; exfalso; omega) | intro _) | (apply WO.eql; exact rfl; exact rfl; all_goals first | (intro _; exfalso; omega) | intro _) | (apply WO.pkT; exact rfl; exact rfl) | (apply WO.pkF; exact rfl; exact rfl) | (apply WO.idx; exact rfl; exact rfl; omega) | (apply WO.seql; exact rfl; exact rfl; all_goals first | (intro h; exact absurd h (by decide)) | (intro h; exact absurd rfl h) | (intro h; contradiction) | intro _) | (apply WO.pl; exact rfl; exact rfl) | (apply WO.pp; exact rfl; exact rfl)
    exact ⟨.inr rfl, rfl, _, rfl, rfl, rfl⟩
theorem w97 (hft : M.FT = FT) (c91 : ∀ t e h, M.ext 91 [.bool t, .int .i64 e] h = some ⟨.int .i64 (if t then e else 0), h, []⟩) (s : Str) : Run M 97 [.str s] [] ⟨.int .i64 (if (athOf s).isSome then 0 else 8), [], []⟩ := by
  refine run_of_W (by rw [hft]; exact ft97) (by simp) ?_
  unfold b97
  simp only [List.map_cons, List.map_nil, List.getElem?_cons_zero, List.getElem?_cons_succ, List.getElem?_nil, Option.getD_some, Option.getD_none]
  match s with
  | [] =>
    have hn : (([] : Str).length : Int) ≠ 1 := by simp
    repeat' first | apply W.seq | apply SQn | apply W.region | apply WO.nil | apply W.block | apply W.ret | apply W.exit | apply W.skip | apply SQr | apply SQe | apply BQn | apply BQr | apply BQe | (apply BQo; exact rfl) | apply LQe | apply LQr | (apply W.condT; exact rfl) | (apply W.condF; exact rfl) | (apply W.cond; exact rfl; all_goals intro _) | (apply WO.gT; exact rfl) | (apply WO.gF; exact rfl) | (apply WO.sT; exact rfl) | (apply WO.sF; exact rfl) | (apply WO.sU; exact rfl) | (apply WO.lss; exact rfl; exact rfl; all_goals first | (intro _; exfalso; omega) | intro _) | (apply WO.gtr; exact rfl; exact rfl; all_goals first | (intro _; exfalso; omega) | intro _) | (apply WO.neq; exact rfl; exact rfl; all_goals first | (intro _; exfalso; omega) | intro _) | (apply WO.pkT; exact rfl; exact rfl) | (apply WO.pkF; exact rfl; exact rfl) | (apply WO.cll; exact rfl; exact rfl; first | exact c91 _ _ _) | (apply WO.idx; exact rfl; exact rfl; omega) | (apply WO.sneq; exact rfl; exact rfl; all_goals first | (intro h; exact absurd h (by decide)) | (intro h; exact absurd rfl h) | (intro h; contradiction) | intro _) | (apply WO.clb; exact rfl; exact rfl; exact rfl; all_goals first | (intro h; exact absurd h (by decide)) | intro _) | (apply WO.cll; exact rfl; exact rfl; exact rfl) | (apply WO.pl; exact rfl; exact rfl) | (apply WO.pp; exact rfl; exact rfl)
    exact ⟨.inr rfl, rfl, _, rfl, rfl, rfl⟩
  | [b] =>
    have e : ((([b] : Str)[(0 : Int).toNat]!).toNat : Int) = (b.toNat : Int) := rfl
    have hn : (([b] : Str).length : Int) = 1 := rfl
    repeat' first | apply W.seq | apply SQn | apply W.region | apply WO.nil | apply W.block | apply W.ret | apply W.exit | apply W.skip | apply SQr | apply SQe | apply BQn | apply BQr | apply BQe | (apply BQo; exact rfl) | apply LQe | apply LQr | (apply W.condT; exact rfl) | (apply W.condF; exact rfl) | (apply W.cond; exact rfl; all_goals intro _) | (apply WO.gT; exact rfl) | (apply WO.gF; exact rfl) | (apply WO.sT; exact rfl) | (apply WO.sF; exact rfl) | (apply WO.sU; exact rfl) | (apply WO.lss; exact rfl; exact rfl; all_goals first | (intro _; exfalso; omega) | intro _) | (apply WO.gtr; exact rfl; exact rfl; all_goals first | (intro _; exfalso; omega) | intro _) | (apply WO.neq; exact rfl; exact rfl; all_goals first | (intro _; exfalso; omega) | intro _) | (apply WO.pkT; exact rfl; exact rfl) | (apply WO.pkF; exact rfl; exact rfl) | (apply WO.cll; exact rfl; exact rfl; first | exact c91 _ _ _) | (apply WO.idx; exact rfl; exact rfl; omega) | (apply WO.sneq; exact rfl; exact rfl; all_goals first | (intro h; exact absurd h (by decide)) | (intro h; exact absurd rfl h) | (intro h; contradiction) | intro _) | (apply WO.clb; exact rfl; exact rfl; exact rfl; all_goals first | (intro h; exact absurd h (by decide)) | intro _) | (apply WO.cll; exact rfl; exact rfl; exact rfl) | (apply WO.pl; exact rfl; exact rfl) | (apply WO.pp; exact rfl; exact rfl)
    all_goals exact ⟨.inr rfl, rfl, _, rfl, congrArg (AV.int .i64) (by by_cases hc : 65 ≤ b.toNat ∧ b.toNat ≤ 90 <;> simp [athOf, hc] <;> omega), rfl⟩
  | a :: b :: s =>
    have hn : ((a :: b :: s).length : Int) ≠ 1 := by simp; omega
    repeat' first | apply W.seq | apply SQn | apply W.region | apply WO.nil | apply W.block | apply W.ret | apply W.exit | apply W.skip | apply SQr | apply SQe | apply BQn | apply BQr | apply BQe | (apply BQo; exact rfl) | apply LQe | apply LQr | (apply W.condT; exact rfl) | (apply W.condF; exact rfl) | (apply W.cond; exact rfl; all_goals intro _) | (apply WO.gT; exact rfl) | (apply WO.gF; exact rfl) | (apply WO.sT; exact rfl) | (apply WO.sF; exact rfl) | (apply WO.sU; exact rfl) | (apply WO.lss; exact rfl; exact rfl; all_goals first | (intro _; exfalso; omega) | intro _) | (apply WO.gtr; exact rfl; exact rfl; all_goals first | (intro _; exfalso; omega) | intro _) | (apply WO.neq; exact rfl; exact rfl; all_goals first | (intro _; exfalso; omega) | intro _) | (apply WO.pkT; exact rfl; exact rfl) | (apply WO.pkF; exact rfl; exact rfl) | (apply WO.cll; exact rfl; exact rfl; first | exact c91 _ _ _) | (apply WO.idx; exact rfl; exact rfl; omega) | (apply WO.sneq; exact rfl; exact rfl; all_goals first | (intro h; exact absurd h (by decide)) | (intro h; exact absurd rfl h) | (intro h; contradiction) | intro _) | (apply WO.clb; exact rfl; exact rfl; exact rfl; all_goals first | (intro h; exact absurd h (by decide)) | intro _) | (apply WO.cll; exact rfl; exact rfl; exact rfl) | (apply WO.pl; exact rfl; exact rfl) | (apply WO.pp; exact rfl; exact rfl)
    exact ⟨.inr rfl, rfl, _, rfl, rfl, rfl⟩

/-! The first column of a byte. -/
def hasB (c : Int) (s : Str) : Bool := s.any (fun b => decide ((b.toNat : Int) = c))
theorem hasB_drop {c : Int} {s : Str} {i : Nat} (h : i < s.length) : hasB c (s.drop i) = (decide (((s[i]!).toNat : Int) = c) || hasB c (s.drop (i + 1))) := by
  rw [hasB, hasB, List.drop_eq_getElem_cons h, getElem!_pos s i h, List.any_cons]
def firstCol (c : Int) : List Str → Nat → Int
  | [], _ => -1
  | s :: l, i => if hasB c s then i else firstCol c l (i + 1)
theorem firstCol_drop {c : Int} {l : List Str} {i : Nat} (h : i < l.length) : firstCol c (l.drop i) i = if hasB c l[i]! then (i : Int) else firstCol c (l.drop (i + 1)) (i + 1) := by
  rw [List.drop_eq_getElem_cons h, getElem!_pos l i h, firstCol]
theorem firstCol_lt (c : Int) : ∀ (l : List Str) (i : Nat), firstCol c l i = -1 ∨ (0 ≤ firstCol c l i ∧ firstCol c l i < i + l.length)
  | [], i => .inl rfl
  | s :: l, i => by
    rw [firstCol]
    split
    · right; simp only [List.length_cons]; omega
    · rcases firstCol_lt c l (i + 1) with h | h
      · exact .inl h
      · right; simp only [List.length_cons]; omega

theorem loop28_0 (rows c : Int) (l : List Str) (a0 : AV) (i : Nat) (hi : i < l.length) (hs : (l[((i : Int)).toNat]!).length < 4611686018427387904) {Q : Ex → StW → Prop} : ∀ (r k : Nat) (lo : List (Nat × AV)) (wr : List Nat), k + r = (l[((i : Int)).toNat]!).length →
    (hasB c ((l[((i : Int)).toNat]!).drop k) = false → ∀ a5 lo wr, Q (.exit 2) ⟨⟨[a0, .int .u8 c, .ptr 0 0, .int .i64 0, .int .i64 i, a5], lo, [some (.cells [.int .i64 rows, .vs (strs l) l.length cap] 25)], []⟩, wr⟩) →
    (hasB c ((l[((i : Int)).toNat]!).drop k) = true → ∀ a5 lo wr, Q .ret ⟨⟨[a0, .int .u8 c, .ptr 0 0, .int .i64 i, .int .i64 i, a5], lo, [some (.cells [.int .i64 rows, .vs (strs l) l.length cap] 25)], []⟩, wr⟩) →
    W M (.loop b28_0) ⟨⟨[a0, .int .u8 c, .ptr 0 0, .int .i64 0, .int .i64 i, .int .i64 k], lo, [some (.cells [.int .i64 rows, .vs (strs l) l.length cap] 25)], []⟩, wr⟩ Q
  | 0, k, lo, wr, hk, h1, h2 => by
    obtain rfl : k = (l[((i : Int)).toNat]!).length := by omega
    refine W.loop ?_
    unfold b28_0
    repeat' first | apply W.seq | apply SQn | apply W.region | apply WO.nil | apply W.block | apply W.ret | apply W.exit | apply W.skip | apply SQr | apply SQe | apply BQn | apply BQr | apply BQe | (apply BQo; exact rfl) | apply LQe | apply LQr | (apply W.condT; exact rfl) | (apply W.condF; exact rfl) | (apply W.cond; exact rfl; all_goals intro _) | (apply WO.lss; exact rfl; exact rfl; all_goals first | (intro _; exfalso; omega) | intro _) | (apply WO.eql; exact rfl; exact rfl; all_goals first | (intro _; exfalso; omega) | intro _) | (apply WO.add; exact rfl; exact rfl; omega) | (apply WO.iav; exact rfl; exact rfl; omega) | (apply WO.ias; exact rfl; exact rfl; omega) | (apply WO.idx; exact rfl; exact rfl; omega) | (apply WO.lda; exact rfl; exact fun _ => rfl; (first | omega | (simp only [List.length_set]; omega) | (simp; omega)); decide; exact rfl; case ia => infer_instance) | (apply WO.lsa; exact rfl; (first | exact rfl | assumption | exact at_new | (apply at_old; assumption) | (apply at_put; first | assumption | (simp only [put_length]; assumption))); exact fun _ => rfl; (first | omega | (simp only [List.length_set]; omega) | (simp; omega)); decide; exact rfl; case ia => infer_instance) | (apply WO.ldf; exact rfl; exact fun _ => rfl; (first | omega | (simp only [List.length_set]; omega) | (simp; omega)); decide; exact rfl; case ia => infer_instance) | (apply WO.lsf; exact rfl; (first | exact rfl | assumption | exact at_new | (apply at_old; assumption) | (apply at_put; first | assumption | (simp only [put_length]; assumption))); exact fun _ => rfl; (first | omega | (simp only [List.length_set]; omega) | (simp; omega)); decide; exact rfl; case ia => infer_instance) | (apply WO.seql; exact rfl; exact rfl; all_goals first | (intro h; exact absurd h (by decide)) | (intro h; exact absurd rfl h) | (intro h; contradiction) | intro _) | (apply WO.hlv; exact rfl; exact rfl; exact rfl) | (apply WO.hpv; exact rfl; exact rfl; exact rfl) | (apply WO.hnv; exact rfl; exact rfl; exact rfl) | (apply WO.pl; exact rfl; exact rfl) | (apply WO.pp; exact rfl; exact rfl)
    exact h1 (by simp [hasB]) _ _ _
  | r + 1, k, lo, wr, hk, h1, h2 => by
    have e := hasB_drop (c := c) (s := l[((i : Int)).toNat]!) (i := (k : Int).toNat) (by omega)
    rw [Int.toNat_natCast (n := k)] at e
    refine W.loop ?_
    unfold b28_0
    repeat' first | apply W.seq | apply SQn | apply W.region | apply WO.nil | apply W.block | apply W.ret | apply W.exit | apply W.skip | apply SQr | apply SQe | apply BQn | apply BQr | apply BQe | (apply BQo; exact rfl) | apply LQe | apply LQr | (apply W.condT; exact rfl) | (apply W.condF; exact rfl) | (apply W.cond; exact rfl; all_goals intro _) | (apply WO.lss; exact rfl; exact rfl; all_goals first | (intro _; exfalso; omega) | intro _) | (apply WO.eql; exact rfl; exact rfl; all_goals first | (intro _; exfalso; omega) | intro _) | (apply WO.add; exact rfl; exact rfl; omega) | (apply WO.iav; exact rfl; exact rfl; omega) | (apply WO.ias; exact rfl; exact rfl; omega) | (apply WO.idx; exact rfl; exact rfl; omega) | (apply WO.lda; exact rfl; exact fun _ => rfl; (first | omega | (simp only [List.length_set]; omega) | (simp; omega)); decide; exact rfl; case ia => infer_instance) | (apply WO.lsa; exact rfl; (first | exact rfl | assumption | exact at_new | (apply at_old; assumption) | (apply at_put; first | assumption | (simp only [put_length]; assumption))); exact fun _ => rfl; (first | omega | (simp only [List.length_set]; omega) | (simp; omega)); decide; exact rfl; case ia => infer_instance) | (apply WO.ldf; exact rfl; exact fun _ => rfl; (first | omega | (simp only [List.length_set]; omega) | (simp; omega)); decide; exact rfl; case ia => infer_instance) | (apply WO.lsf; exact rfl; (first | exact rfl | assumption | exact at_new | (apply at_old; assumption) | (apply at_put; first | assumption | (simp only [put_length]; assumption))); exact fun _ => rfl; (first | omega | (simp only [List.length_set]; omega) | (simp; omega)); decide; exact rfl; case ia => infer_instance) | (apply WO.seql; exact rfl; exact rfl; all_goals first | (intro h; exact absurd h (by decide)) | (intro h; exact absurd rfl h) | (intro h; contradiction) | intro _) | (apply WO.hlv; exact rfl; exact rfl; exact rfl) | (apply WO.hpv; exact rfl; exact rfl; exact rfl) | (apply WO.hnv; exact rfl; exact rfl; exact rfl) | (apply WO.pl; exact rfl; exact rfl) | (apply WO.pp; exact rfl; exact rfl)
    · rename_i he
      rw [Int.toNat_natCast (n := k)] at he
      rw [decide_eq_true he, Bool.true_or] at e
      exact h2 e _ _ _
    · rename_i he
      rw [Int.toNat_natCast (n := k)] at he
      rw [decide_eq_false he, Bool.false_or] at e
      rw [e] at h1 h2
      exact LQn (loop28_0 rows c l a0 i hi hs r (k + 1) _ _ (by omega) h1 h2)
theorem loop28_1 (rows c : Int) (l : List Str) (hL : ∀ s ∈ l, s.length < 4611686018427387904) (hl : l.length < 1000000) (a0 : AV) {Q : Ex → StW → Prop} : ∀ (r i : Nat) (a5 : AV) (lo : List (Nat × AV)) (wr : List Nat), i + r = l.length →
    (firstCol c (l.drop i) i = -1 → ∀ a4 a5 lo wr, Q (.exit 0) ⟨⟨[a0, .int .u8 c, .ptr 0 0, .int .i64 0, a4, a5], lo, [some (.cells [.int .i64 rows, .vs (strs l) l.length cap] 25)], []⟩, wr⟩) →
    (∀ a4 a5 lo wr, Q .ret ⟨⟨[a0, .int .u8 c, .ptr 0 0, .int .i64 (firstCol c (l.drop i) i), a4, a5], lo, [some (.cells [.int .i64 rows, .vs (strs l) l.length cap] 25)], []⟩, wr⟩) →
    W M (.loop b28_1) ⟨⟨[a0, .int .u8 c, .ptr 0 0, .int .i64 0, .int .i64 i, a5], lo, [some (.cells [.int .i64 rows, .vs (strs l) l.length cap] 25)], []⟩, wr⟩ Q
  | 0, i, a5, lo, wr, hi, h1, h2 => by
    obtain rfl : i = l.length := by omega
    refine W.loop ?_
    unfold b28_1
    repeat' first | apply W.seq | apply SQn | apply W.region | apply WO.nil | apply W.block | apply W.ret | apply W.exit | apply W.skip | apply SQr | apply SQe | apply BQn | apply BQr | apply BQe | (apply BQo; exact rfl) | apply LQe | apply LQr | (apply W.condT; exact rfl) | (apply W.condF; exact rfl) | (apply W.cond; exact rfl; all_goals intro _) | (apply WO.lss; exact rfl; exact rfl; all_goals first | (intro _; exfalso; omega) | intro _) | (apply WO.add; exact rfl; exact rfl; omega) | (apply WO.hlv; exact rfl; exact rfl; exact rfl) | (apply WO.hpv; exact rfl; exact rfl; exact rfl) | (apply WO.hnv; exact rfl; exact rfl; exact rfl) | (apply WO.pl; exact rfl; exact rfl) | (apply WO.pp; exact rfl; exact rfl)
    exact h1 (by simp [firstCol]) _ _ _ _
  | r + 1, i, a5, lo, wr, hi, h1, h2 => by
    have e := firstCol_drop (c := c) (l := l) (i := (i : Int).toNat) (by omega)
    rw [Int.toNat_natCast] at e
    refine W.loop ?_
    unfold b28_1
    repeat' first | apply W.seq | apply SQn | apply W.region | apply WO.nil | apply W.block | apply W.ret | apply W.exit | apply W.skip | apply SQr | apply SQe | apply BQn | apply BQr | apply BQe | (apply BQo; exact rfl) | apply LQe | apply LQr | (apply W.condT; exact rfl) | (apply W.condF; exact rfl) | (apply W.cond; exact rfl; all_goals intro _) | (apply WO.lss; exact rfl; exact rfl; all_goals first | (intro _; exfalso; omega) | intro _) | (apply WO.add; exact rfl; exact rfl; omega) | (apply WO.hlv; exact rfl; exact rfl; exact rfl) | (apply WO.hpv; exact rfl; exact rfl; exact rfl) | (apply WO.hnv; exact rfl; exact rfl; exact rfl) | (apply WO.pl; exact rfl; exact rfl) | (apply WO.pp; exact rfl; exact rfl)
    refine loop28_0 rows c l a0 i (by omega) (short_get hL (by omega)) _ 0 _ _ (Nat.zero_add _) (fun h a5 lo wr => ?_) (fun h a5 lo wr => ?_)
    · rw [List.drop_zero, Int.toNat_natCast] at h
      rw [h] at e
      rw [if_neg (by decide)] at e
      rw [e] at h1 h2
      repeat' first | apply W.seq | apply SQn | apply W.region | apply WO.nil | apply W.block | apply W.ret | apply W.exit | apply W.skip | apply SQr | apply SQe | apply BQn | apply BQr | apply BQe | (apply BQo; exact rfl) | apply LQe | apply LQr | (apply W.condT; exact rfl) | (apply W.condF; exact rfl) | (apply W.cond; exact rfl; all_goals intro _) | (apply WO.lss; exact rfl; exact rfl; all_goals first | (intro _; exfalso; omega) | intro _) | (apply WO.add; exact rfl; exact rfl; omega) | (apply WO.hlv; exact rfl; exact rfl; exact rfl) | (apply WO.hpv; exact rfl; exact rfl; exact rfl) | (apply WO.hnv; exact rfl; exact rfl; exact rfl) | (apply WO.pl; exact rfl; exact rfl) | (apply WO.pp; exact rfl; exact rfl)
      exact LQn (loop28_1 rows c l hL hl a0 r (i + 1) _ _ _ (by omega) h1 h2)
    · rw [List.drop_zero, Int.toNat_natCast] at h
      rw [h, if_pos rfl] at e
      rw [e] at h2
      repeat' first | apply W.seq | apply SQn | apply W.region | apply WO.nil | apply W.block | apply W.ret | apply W.exit | apply W.skip | apply SQr | apply SQe | apply BQn | apply BQr | apply BQe | (apply BQo; exact rfl) | apply LQe | apply LQr | (apply W.condT; exact rfl) | (apply W.condF; exact rfl) | (apply W.cond; exact rfl; all_goals intro _) | (apply WO.lss; exact rfl; exact rfl; all_goals first | (intro _; exfalso; omega) | intro _) | (apply WO.add; exact rfl; exact rfl; omega) | (apply WO.hlv; exact rfl; exact rfl; exact rfl) | (apply WO.hpv; exact rfl; exact rfl; exact rfl) | (apply WO.hnv; exact rfl; exact rfl; exact rfl) | (apply WO.pl; exact rfl; exact rfl) | (apply WO.pp; exact rfl; exact rfl)
      exact h2 _ _ _ _
theorem w28 (hft : M.FT = FT) (rows c : Int) (l : List Str) (hL : ∀ s ∈ l, s.length < 4611686018427387904) (hl : l.length < 1000000) : Run M 28 [.agg [.int .i64 rows, .vs (strs l) l.length cap], .int .u8 c] [] ⟨.int .i64 (firstCol c l 0), [], []⟩ := by
  refine run_of_W (by rw [hft]; exact ft28) (by simp) ?_
  unfold b28
  simp only [List.map_cons, List.map_nil, List.getElem?_cons_zero, List.getElem?_cons_succ, List.getElem?_nil, Option.getD_some, Option.getD_none]
  repeat' first | apply W.seq | apply SQn | apply W.region | apply WO.nil | apply W.block | apply W.ret | apply W.exit | apply W.skip | apply SQr | apply SQe | apply BQn | apply BQr | apply BQe | (apply BQo; exact rfl) | apply LQe | apply LQr | (apply W.condT; exact rfl) | (apply W.condF; exact rfl) | (apply W.cond; exact rfl; all_goals intro _) | (apply WO.hlv; exact rfl; exact rfl; exact rfl) | (apply WO.hpv; exact rfl; exact rfl; exact rfl) | (apply WO.hnv; exact rfl; exact rfl; exact rfl) | (apply WO.pl; exact rfl; exact rfl) | (apply WO.pp; exact rfl; exact rfl)
  refine loop28_1 rows c l hL hl _ l.length 0 _ _ _ (by omega) (fun h a4 a5 lo wr => ?_) (fun a4 a5 lo wr => ?_)
  · repeat' first | apply W.seq | apply SQn | apply W.region | apply WO.nil | apply W.block | apply W.ret | apply W.exit | apply W.skip | apply SQr | apply SQe | apply BQn | apply BQr | apply BQe | (apply BQo; exact rfl) | apply LQe | apply LQr | (apply W.condT; exact rfl) | (apply W.condF; exact rfl) | (apply W.cond; exact rfl; all_goals intro _) | (apply WO.hlv; exact rfl; exact rfl; exact rfl) | (apply WO.hpv; exact rfl; exact rfl; exact rfl) | (apply WO.hnv; exact rfl; exact rfl; exact rfl) | (apply WO.pl; exact rfl; exact rfl) | (apply WO.pp; exact rfl; exact rfl)
    rw [List.drop_zero] at h
    exact ⟨.inr rfl, rfl, _, rfl, by rw [h]; rfl, rfl⟩
  · repeat' first | apply W.seq | apply SQn | apply W.region | apply WO.nil | apply W.block | apply W.ret | apply W.exit | apply W.skip | apply SQr | apply SQe | apply BQn | apply BQr | apply BQe | (apply BQo; exact rfl) | apply LQe | apply LQr | (apply W.condT; exact rfl) | (apply W.condF; exact rfl) | (apply W.cond; exact rfl; all_goals intro _) | (apply WO.hlv; exact rfl; exact rfl; exact rfl) | (apply WO.hpv; exact rfl; exact rfl; exact rfl) | (apply WO.hnv; exact rfl; exact rfl; exact rfl) | (apply WO.pl; exact rfl; exact rfl) | (apply WO.pp; exact rfl; exact rfl)
    rw [List.drop_zero]
    exact ⟨.inr rfl, rfl, _, rfl, rfl, rfl⟩
end Go.Ab.Ch5


/-
  Own work: images: strings.Contains of one byte, find, First.
-/
namespace Go.Ab.Ch5
variable {M : Mach} {cap : Option Nat}

theorem firstIdx_has (s : Str) (b : UInt8) : decide (0 ≤ firstIdx ⟨s.toArray⟩ b) = hasB b.toNat s := by
  unfold firstIdx hasB
  have hsz : (ByteArray.mk s.toArray).size = s.length := by simp [ByteArray.size]
  have hg : ∀ i, i < s.length → (ByteArray.mk s.toArray)[i]! = s[i]! := fun i hi => by
    have h1 : i < (ByteArray.mk s.toArray).size := by rw [hsz]; exact hi
    rw [getElem!_pos (ByteArray.mk s.toArray) i h1, getElem!_pos s i hi]
    rfl
  cases hf : (List.range (ByteArray.mk s.toArray).size).find? fun i => (ByteArray.mk s.toArray)[i]! == b with
  | some i =>
    have h1 := List.find?_some hf
    have h2 := List.mem_of_find?_eq_some hf
    rw [List.mem_range, hsz] at h2
    rw [hg i h2] at h1
    symm
    simp only [decide_eq_true (show (0 : Int) ≤ (i : Int) by omega)]
    rw [List.any_eq_true]
    refine ⟨s[i], List.getElem_mem h2, ?_⟩
    rw [getElem!_pos s i h2] at h1
    simp at h1
    simp [h1]
  | none =>
    rw [List.find?_eq_none] at hf
    symm
    rw [show decide ((0 : Int) ≤ -1) = false from rfl]
    rw [List.any_eq_false]
    intro x hx
    obtain ⟨i, hi, rfl⟩ := List.mem_iff_getElem.1 hx
    have := hf i (by rw [List.mem_range, hsz]; exact hi)
    rw [hg i hi, getElem!_pos s i hi] at this
    simp at this
    simp only [decide_eq_true_eq]
    intro e
    exact this (UInt8.toNat_inj.1 (by omega))

structure C162 (M : Mach) : Prop where
  ft : M.FT = FT
  n213 : ∀ ars h, M.ext 213 ars h = none
  n270 : ∀ ars h, M.ext 270 ars h = none
  n316 : ∀ ars h, M.ext 316 ars h = none
  c336 : ∀ (s : Str) (c : Int) h, M.ext 336 [.str s, .int .u8 c] h = some ⟨.int .i64 (firstIdx ⟨s.toArray⟩ c.toNat.toUInt8), h, []⟩
theorem toU8 (b : UInt8) : ((b.toNat : Int)).toNat.toUInt8 = b := by simp
theorem r316 (C : C162 M) (s : Str) (b : UInt8) (H : Heap) : CT M (fnV 316) [.str s, .int .u8 b.toNat] H ⟨.int .i64 (firstIdx ⟨s.toArray⟩ b), H, []⟩ := by
  have hc := C.c336 s b.toNat H
  rw [toU8] at hc
  refine CT.run (C.n316 _ _) (run_same (by rw [C.ft]; exact ft316) (by simp) ?_)
  simp only [List.nil_append, List.append_nil]
  unfold b316
  simp only [List.map_cons, List.map_nil, List.getElem?_cons_zero, List.getElem?_cons_succ, List.getElem?_nil, Option.getD_some, Option.getD_none]
  repeat' first | apply W.seq | apply SQn | apply W.region | apply WO.nil | apply W.block | apply W.ret | apply W.exit | apply W.skip | apply SQr | apply SQe | apply BQn | apply BQr | apply BQe | (apply BQo; exact rfl) | apply LQe | apply LQr | (apply W.condT; exact rfl) | (apply W.condF; exact rfl) | (apply W.cond; exact rfl; all_goals intro _) | (apply WO.cll; exact rfl; exact rfl; first | exact hc) | (apply WO.clb; exact rfl; exact rfl; exact rfl; all_goals first | (intro h; exact absurd h (by decide)) | intro _) | (apply WO.cll; exact rfl; exact rfl; exact rfl) | (apply WO.pl; exact rfl; exact rfl) | (apply WO.pp; exact rfl; exact rfl)
  exact ⟨.inr rfl, rfl, rfl, rfl, _, rfl, rfl⟩
theorem r270 (C : C162 M) (s : Str) (b : UInt8) (H : Heap) : CT M (fnV 270) [.str s, .str [b]] H ⟨.int .i64 (firstIdx ⟨s.toArray⟩ b), H, []⟩ := by
  have hc := r316 C s b H
  have hn0 : ¬ (([b] : Str).length : Int) = 0 := by simp
  have hn : (([b] : Str).length : Int) = 1 := rfl
  refine CT.run (C.n270 _ _) (run_same (by rw [C.ft]; exact ft270) (by simp) ?_)
  simp only [List.nil_append, List.append_nil]
  unfold b270
  simp only [List.map_cons, List.map_nil, List.getElem?_cons_zero, List.getElem?_cons_succ, List.getElem?_nil, Option.getD_some, Option.getD_none]
  by_cases hs : ([b] : Str) = s
  · subst hs
    have e : firstIdx ⟨([b] : Str).toArray⟩ b = 0 := by
      have h1 := firstIdx_has [b] b
      have h2 : hasB b.toNat [b] = true := by simp [hasB]
      rw [h2, decide_eq_true_eq] at h1
      unfold firstIdx at h1 ⊢
      rw [show (ByteArray.mk ([b] : Str).toArray).size = 1 from rfl] at h1 ⊢
      rw [show List.range 1 = [0] from rfl] at h1 ⊢
      have h3 : ((ByteArray.mk ([b] : Str).toArray)[0]! == b) = true := by
        cases hq : ((ByteArray.mk ([b] : Str).toArray)[0]! == b) with
        | true => rfl
        | false => simp [hq] at h1
      simp only [List.find?_cons, h3]
      rfl
    rw [e]
    repeat' first | (apply WO.seql; exact rfl; exact rfl; all_goals first | (intro h; exact absurd rfl h) | intro _) | apply W.seq | apply SQn | apply W.region | apply WO.nil | apply W.block | apply W.ret | apply W.exit | apply W.skip | apply SQr | apply SQe | apply BQn | apply BQr | apply BQe | (apply BQo; exact rfl) | apply LQe | apply LQr | (apply W.condT; exact rfl) | (apply W.condF; exact rfl) | (apply W.cond; exact rfl; all_goals intro _) | (apply WO.gT; exact rfl) | (apply WO.gF; exact rfl) | (apply WO.sT; exact rfl) | (apply WO.sF; exact rfl) | (apply WO.sU; exact rfl) | (apply WO.geq; exact rfl; exact rfl; all_goals first | (intro _; exfalso; omega) | intro _) | (apply WO.eql; exact rfl; exact rfl; all_goals first | (intro _; exfalso; omega) | intro _) | (apply WO.pkT; exact rfl; exact rfl) | (apply WO.pkF; exact rfl; exact rfl) | (apply WO.add; exact rfl; exact rfl; omega) | (apply WO.sub; exact rfl; exact rfl; omega) | (apply WO.idx; exact rfl; exact rfl; omega) | (apply WO.seql; exact rfl; exact rfl; all_goals first | (intro h; exact absurd h (by decide)) | (intro h; exact absurd rfl h) | (intro h; contradiction) | intro _) | (apply WO.clb; exact rfl; exact rfl; exact rfl; all_goals first | (intro h; exact absurd h (by decide)) | intro _) | (apply WO.cll; exact rfl; exact rfl; exact rfl) | (apply WO.pl; exact rfl; exact rfl) | (apply WO.pp; exact rfl; exact rfl)
    all_goals exact ⟨.inr rfl, rfl, rfl, rfl, _, rfl, rfl⟩
  · repeat' first | (apply WO.seql; exact rfl; exact rfl; all_goals first | (intro h; exact absurd h hs) | intro _) | apply W.seq | apply SQn | apply W.region | apply WO.nil | apply W.block | apply W.ret | apply W.exit | apply W.skip | apply SQr | apply SQe | apply BQn | apply BQr | apply BQe | (apply BQo; exact rfl) | apply LQe | apply LQr | (apply W.condT; exact rfl) | (apply W.condF; exact rfl) | (apply W.cond; exact rfl; all_goals intro _) | (apply WO.gT; exact rfl) | (apply WO.gF; exact rfl) | (apply WO.sT; exact rfl) | (apply WO.sF; exact rfl) | (apply WO.sU; exact rfl) | (apply WO.geq; exact rfl; exact rfl; all_goals first | (intro _; exfalso; omega) | intro _) | (apply WO.eql; exact rfl; exact rfl; all_goals first | (intro _; exfalso; omega) | intro _) | (apply WO.pkT; exact rfl; exact rfl) | (apply WO.pkF; exact rfl; exact rfl) | (apply WO.add; exact rfl; exact rfl; omega) | (apply WO.sub; exact rfl; exact rfl; omega) | (apply WO.ct; exact rfl; exact rfl; first | exact hc) | (apply WO.ctn; exact rfl; exact rfl; first | exact hc) | (apply WD.ct; exact rfl; exact rfl; exact rfl; first | exact hc) | (apply WO.idx; exact rfl; exact rfl; omega) | (apply WO.seql; exact rfl; exact rfl; all_goals first | (intro h; exact absurd h (by decide)) | (intro h; exact absurd rfl h) | (intro h; contradiction) | intro _) | (apply WO.clb; exact rfl; exact rfl; exact rfl; all_goals first | (intro h; exact absurd h (by decide)) | intro _) | (apply WO.cll; exact rfl; exact rfl; exact rfl) | (apply WO.pl; exact rfl; exact rfl) | (apply WO.pp; exact rfl; exact rfl)
    all_goals exact ⟨.inr rfl, rfl, rfl, rfl, _, rfl, rfl⟩
theorem r213 (C : C162 M) (s : Str) (b : UInt8) (H : Heap) : CT M (fnV 213) [.str s, .str [b]] H ⟨.int .i64 (firstIdx ⟨s.toArray⟩ b), H, []⟩ := by
  have hc := r270 C s b H
  refine CT.run (C.n213 _ _) (run_same (by rw [C.ft]; exact ft213) (by simp) ?_)
  simp only [List.nil_append, List.append_nil]
  unfold b213
  simp only [List.map_cons, List.map_nil, List.getElem?_cons_zero, List.getElem?_cons_succ, List.getElem?_nil, Option.getD_some, Option.getD_none]
  repeat' first | apply W.seq | apply SQn | apply W.region | apply WO.nil | apply W.block | apply W.ret | apply W.exit | apply W.skip | apply SQr | apply SQe | apply BQn | apply BQr | apply BQe | (apply BQo; exact rfl) | apply LQe | apply LQr | (apply W.condT; exact rfl) | (apply W.condF; exact rfl) | (apply W.cond; exact rfl; all_goals intro _) | (apply WO.ct; exact rfl; exact rfl; first | exact hc) | (apply WO.ctn; exact rfl; exact rfl; first | exact hc) | (apply WD.ct; exact rfl; exact rfl; exact rfl; first | exact hc) | (apply WO.clb; exact rfl; exact rfl; exact rfl; all_goals first | (intro h; exact absurd h (by decide)) | intro _) | (apply WO.cll; exact rfl; exact rfl; exact rfl) | (apply WO.pl; exact rfl; exact rfl) | (apply WO.pp; exact rfl; exact rfl)
  exact ⟨.inr rfl, rfl, rfl, rfl, _, rfl, rfl⟩
theorem w162 (C : C162 M) (s : Str) (b : UInt8) : Run M 162 [.str s, .str [b]] [] ⟨.bool (hasB b.toNat s), [], []⟩ := by
  have hc := r213 C s b []
  rw [← firstIdx_has s b]
  refine run_of_W (by rw [C.ft]; exact ft162) (by simp) ?_
  unfold b162
  simp only [List.map_cons, List.map_nil, List.getElem?_cons_zero, List.getElem?_cons_succ, List.getElem?_nil, Option.getD_some, Option.getD_none]
  repeat' first | apply W.seq | apply SQn | apply W.region | apply WO.nil | apply W.block | apply W.ret | apply W.exit | apply W.skip | apply SQr | apply SQe | apply BQn | apply BQr | apply BQe | (apply BQo; exact rfl) | apply LQe | apply LQr | (apply W.condT; exact rfl) | (apply W.condF; exact rfl) | (apply W.cond; exact rfl; all_goals intro _) | (apply WO.geq; exact rfl; exact rfl; all_goals first | (intro _; exfalso; omega) | intro _) | (apply WO.ct; exact rfl; exact rfl; first | exact hc) | (apply WO.ctn; exact rfl; exact rfl; first | exact hc) | (apply WD.ct; exact rfl; exact rfl; exact rfl; first | exact hc) | (apply WO.clb; exact rfl; exact rfl; exact rfl; all_goals first | (intro h; exact absurd h (by decide)) | intro _) | (apply WO.cll; exact rfl; exact rfl; exact rfl) | (apply WO.pl; exact rfl; exact rfl) | (apply WO.pp; exact rfl; exact rfl)
  all_goals (rename_i h; exact ⟨.inr rfl, rfl, _, rfl, congrArg AV.bool (by simp [h]), rfl⟩)

/-! find, First. -/
theorem loop98 (c162 : ∀ (s : Str) (b : UInt8) h, M.ext 162 [.str s, .str [b]] h = some ⟨.bool (hasB b.toNat s), h, []⟩) (l : List Str) (b : UInt8) (hl : l.length < 1000000) (a0 a2 : AV) (H : Heap) {Q : Ex → StW → Prop} : ∀ (r i : Nat) (a4 a5 : AV) (lo : List (Nat × AV)) (wr : List Nat), i + r = l.length →
    (firstCol b.toNat (l.drop i) i = -1 → ∀ a4 a5 lo wr, Q (.exit 0) ⟨⟨[a0, .str [b], a2, .int .i64 0, a4, a5, .vs (strs l) l.length cap, .int .i64 l.length, .int .i64 l.length], lo, H, []⟩, wr⟩) →
    (∀ a4 a5 a8 lo wr, Q .ret ⟨⟨[a0, .str [b], a2, .int .i64 (firstCol b.toNat (l.drop i) i), a4, a5, .vs (strs l) l.length cap, .int .i64 l.length, a8], lo, H, []⟩, wr⟩) →
    W M (.loop b98_0) ⟨⟨[a0, .str [b], a2, .int .i64 0, a4, a5, .vs (strs l) l.length cap, .int .i64 l.length, .int .i64 i], lo, H, []⟩, wr⟩ Q
  | 0, i, a4, a5, lo, wr, hi, h1, h2 => by
    obtain rfl : i = l.length := by omega
    refine W.loop ?_
    unfold b98_0
    repeat' first | apply W.seq | apply SQn | apply W.region | apply WO.nil | apply W.block | apply W.ret | apply W.exit | apply W.skip | apply SQr | apply SQe | apply BQn | apply BQr | apply BQe | (apply BQo; exact rfl) | apply LQe | apply LQr | (apply W.condT; exact rfl) | (apply W.condF; exact rfl) | (apply W.cond; exact rfl; all_goals intro _) | (apply WO.lss; exact rfl; exact rfl; all_goals first | (intro _; exfalso; omega) | intro _) | (apply WO.add; exact rfl; exact rfl; omega) | (apply WO.iav; exact rfl; exact rfl; omega) | (apply WO.ias; exact rfl; exact rfl; omega) | (apply WO.lda; exact rfl; exact fun _ => rfl; (first | omega | (simp only [List.length_set]; omega) | (simp; omega)); decide; exact rfl; case ia => infer_instance) | (apply WO.lsa; exact rfl; (first | exact rfl | assumption | exact at_new | (apply at_old; assumption) | (apply at_put; first | assumption | (simp only [put_length]; assumption))); exact fun _ => rfl; (first | omega | (simp only [List.length_set]; omega) | (simp; omega)); decide; exact rfl; case ia => infer_instance) | (apply WO.clb; exact rfl; exact rfl; exact rfl; all_goals first | (intro h; exact absurd h (by decide)) | intro _) | (apply WO.cll; exact rfl; exact rfl; exact rfl) | (apply WO.hlv; exact rfl; exact rfl; exact rfl) | (apply WO.hpv; exact rfl; exact rfl; exact rfl) | (apply WO.hnv; exact rfl; exact rfl; exact rfl) | (apply WO.pl; exact rfl; exact rfl) | (apply WO.pp; exact rfl; exact rfl)
    exact h1 (by simp [firstCol]) _ _ _ _
  | r + 1, i, a4, a5, lo, wr, hi, h1, h2 => by
    have e := firstCol_drop (c := b.toNat) (l := l) (i := (i : Int).toNat) (by omega)
    rw [Int.toNat_natCast] at e
    have hc := c162 l[((i : Int)).toNat]! b
    refine W.loop ?_
    cases hp : hasB b.toNat l[((i : Int)).toNat]!
    · rw [hp] at hc
      rw [Int.toNat_natCast] at hp
      rw [hp, if_neg (by decide)] at e
      rw [e] at h1 h2
      unfold b98_0
      repeat' first | apply W.seq | apply SQn | apply W.region | apply WO.nil | apply W.block | apply W.ret | apply W.exit | apply W.skip | apply SQr | apply SQe | apply BQn | apply BQr | apply BQe | (apply BQo; exact rfl) | apply LQe | apply LQr | (apply W.condT; exact rfl) | (apply W.condF; exact rfl) | (apply W.cond; exact rfl; all_goals intro _) | (apply WO.lss; exact rfl; exact rfl; all_goals first | (intro _; exfalso; omega) | intro _) | (apply WO.add; exact rfl; exact rfl; omega) | (apply WO.cll; exact rfl; exact rfl; first | exact hc _) | (apply WO.iav; exact rfl; exact rfl; omega) | (apply WO.ias; exact rfl; exact rfl; omega) | (apply WO.lda; exact rfl; exact fun _ => rfl; (first | omega | (simp only [List.length_set]; omega) | (simp; omega)); decide; exact rfl; case ia => infer_instance) | (apply WO.lsa; exact rfl; (first | exact rfl | assumption | exact at_new | (apply at_old; assumption) | (apply at_put; first | assumption | (simp only [put_length]; assumption))); exact fun _ => rfl; (first | omega | (simp only [List.length_set]; omega) | (simp; omega)); decide; exact rfl; case ia => infer_instance) | (apply WO.clb; exact rfl; exact rfl; exact rfl; all_goals first | (intro h; exact absurd h (by decide)) | intro _) | (apply WO.cll; exact rfl; exact rfl; exact rfl) | (apply WO.hlv; exact rfl; exact rfl; exact rfl) | (apply WO.hpv; exact rfl; exact rfl; exact rfl) | (apply WO.hnv; exact rfl; exact rfl; exact rfl) | (apply WO.pl; exact rfl; exact rfl) | (apply WO.pp; exact rfl; exact rfl)
      exact LQn (loop98 c162 l b hl a0 a2 H r (i + 1) _ _ _ _ (by omega) h1 h2)
    · rw [hp] at hc
      rw [Int.toNat_natCast] at hp
      rw [hp, if_pos rfl] at e
      rw [e] at h2
      unfold b98_0
      repeat' first | apply W.seq | apply SQn | apply W.region | apply WO.nil | apply W.block | apply W.ret | apply W.exit | apply W.skip | apply SQr | apply SQe | apply BQn | apply BQr | apply BQe | (apply BQo; exact rfl) | apply LQe | apply LQr | (apply W.condT; exact rfl) | (apply W.condF; exact rfl) | (apply W.cond; exact rfl; all_goals intro _) | (apply WO.lss; exact rfl; exact rfl; all_goals first | (intro _; exfalso; omega) | intro _) | (apply WO.add; exact rfl; exact rfl; omega) | (apply WO.cll; exact rfl; exact rfl; first | exact hc _) | (apply WO.iav; exact rfl; exact rfl; omega) | (apply WO.ias; exact rfl; exact rfl; omega) | (apply WO.lda; exact rfl; exact fun _ => rfl; (first | omega | (simp only [List.length_set]; omega) | (simp; omega)); decide; exact rfl; case ia => infer_instance) | (apply WO.lsa; exact rfl; (first | exact rfl | assumption | exact at_new | (apply at_old; assumption) | (apply at_put; first | assumption | (simp only [put_length]; assumption))); exact fun _ => rfl; (first | omega | (simp only [List.length_set]; omega) | (simp; omega)); decide; exact rfl; case ia => infer_instance) | (apply WO.clb; exact rfl; exact rfl; exact rfl; all_goals first | (intro h; exact absurd h (by decide)) | intro _) | (apply WO.cll; exact rfl; exact rfl; exact rfl) | (apply WO.hlv; exact rfl; exact rfl; exact rfl) | (apply WO.hpv; exact rfl; exact rfl; exact rfl) | (apply WO.hnv; exact rfl; exact rfl; exact rfl) | (apply WO.pl; exact rfl; exact rfl) | (apply WO.pp; exact rfl; exact rfl)
      exact h2 _ _ _ _ _
theorem w98 (hft : M.FT = FT) (c162 : ∀ (s : Str) (b : UInt8) h, M.ext 162 [.str s, .str [b]] h = some ⟨.bool (hasB b.toNat s), h, []⟩) (rows : Int) (l : List Str) (b : UInt8) (hl : l.length < 1000000) : Run M 98 [.agg [.int .i64 rows, .vs (strs l) l.length cap], .str [b]] [] ⟨.int .i64 (firstCol b.toNat l 0), [], []⟩ := by
  refine run_of_W (by rw [hft]; exact ft98) (by simp) ?_
  unfold b98
  simp only [List.map_cons, List.map_nil, List.getElem?_cons_zero, List.getElem?_cons_succ, List.getElem?_nil, Option.getD_some, Option.getD_none]
  repeat' first | apply W.seq | apply SQn | apply W.region | apply WO.nil | apply W.block | apply W.ret | apply W.exit | apply W.skip | apply SQr | apply SQe | apply BQn | apply BQr | apply BQe | (apply BQo; exact rfl) | apply LQe | apply LQr | (apply W.condT; exact rfl) | (apply W.condF; exact rfl) | (apply W.cond; exact rfl; all_goals intro _) | (apply WO.hlv; exact rfl; exact rfl; exact rfl) | (apply WO.hpv; exact rfl; exact rfl; exact rfl) | (apply WO.hnv; exact rfl; exact rfl; exact rfl) | (apply WO.pl; exact rfl; exact rfl) | (apply WO.pp; exact rfl; exact rfl)
  refine loop98 c162 l b hl _ _ _ l.length 0 _ _ _ _ (by omega) (fun h a4 a5 lo wr => ?_) (fun a4 a5 a8 lo wr => ?_)
  · repeat' first | apply W.seq | apply SQn | apply W.region | apply WO.nil | apply W.block | apply W.ret | apply W.exit | apply W.skip | apply SQr | apply SQe | apply BQn | apply BQr | apply BQe | (apply BQo; exact rfl) | apply LQe | apply LQr | (apply W.condT; exact rfl) | (apply W.condF; exact rfl) | (apply W.cond; exact rfl; all_goals intro _) | (apply WO.hlv; exact rfl; exact rfl; exact rfl) | (apply WO.hpv; exact rfl; exact rfl; exact rfl) | (apply WO.hnv; exact rfl; exact rfl; exact rfl) | (apply WO.pl; exact rfl; exact rfl) | (apply WO.pp; exact rfl; exact rfl)
    rw [List.drop_zero] at h
    exact ⟨.inr rfl, rfl, _, rfl, by rw [h]; rfl, rfl⟩
  · repeat' first | apply W.seq | apply SQn | apply W.region | apply WO.nil | apply W.block | apply W.ret | apply W.exit | apply W.skip | apply SQr | apply SQe | apply BQn | apply BQr | apply BQe | (apply BQo; exact rfl) | apply LQe | apply LQr | (apply W.condT; exact rfl) | (apply W.condF; exact rfl) | (apply W.cond; exact rfl; all_goals intro _) | (apply WO.hlv; exact rfl; exact rfl; exact rfl) | (apply WO.hpv; exact rfl; exact rfl; exact rfl) | (apply WO.hnv; exact rfl; exact rfl; exact rfl) | (apply WO.pl; exact rfl; exact rfl) | (apply WO.pp; exact rfl; exact rfl)
    rw [List.drop_zero]
    exact ⟨.inr rfl, rfl, _, rfl, rfl, rfl⟩

/-- What First gives. -/
def firstR (rows : Int) (l : List Str) (s : Str) : Int × Int :=
  if imgE rows l ≠ 0 then (0, imgE rows l) else match athOf s with
    | none => (0, 8)
    | some b => if firstCol b.toNat l 0 < 0 then (0, 7) else (firstCol b.toNat l 0, 0)
theorem athOf_some {s : Str} {b : UInt8} (h : athOf s = some b) : s = [b] := by
  unfold athOf at h
  split at h
  · split at h
    · cases h; rfl
    · cases h
  · cases h
structure C56 (M : Mach) : Prop where
  ft : M.FT = FT
  c90 : ∀ v l h, intsAt h v = some l → l.length < 4611686018427387904 → M.ext 90 [v] h = some ⟨.int .i64 (firstNZ l), h, []⟩
  c70 : ∀ rows (l : List Str) cap h, (∀ s ∈ l, s.length < 4611686018427387904) → l.length < 1000000 → M.ext 70 [.agg [.int .i64 rows, .vs (strs l) l.length cap]] h = some ⟨.int .i64 (imgE rows l), h, []⟩
  c97 : ∀ s h, M.ext 97 [.str s] h = some ⟨.int .i64 (if (athOf s).isSome then 0 else 8), h, []⟩
  c98 : ∀ rows (l : List Str) cap b h, l.length < 1000000 → M.ext 98 [.agg [.int .i64 rows, .vs (strs l) l.length cap], .str [b]] h = some ⟨.int .i64 (firstCol b.toNat l 0), h, []⟩
theorem w56 (C : C56 M) (rows : Int) (l : List Str) (s : Str) (hL : ∀ s ∈ l, s.length < 4611686018427387904) (hl : l.length < 1000000) : Run M 56 [.agg [.int .i64 rows, .vs (strs l) l.length cap], .str s] [] ⟨.tup [.int .i64 (firstR rows l s).1, .int .i64 (firstR rows l s).2], [], []⟩ := by
  have q70 := fun h => C.c70 rows l cap h hL hl
  have q97 := C.c97 s
  have q90 : ∀ (a b : Int) (H : Heap), M.ext 90 [.sl H.length 0 2 1 (some 2)] (H ++ [some (.cells [.int .i64 a, .int .i64 b] 28)]) = some ⟨.int .i64 (firstNZ [a, b]), H ++ [some (.cells [.int .i64 a, .int .i64 b] 28)], []⟩ := fun a b H => by
    have e : Heap.at (H ++ [some (.cells [.int .i64 a, .int .i64 b] 28)]) H.length = some (.cells (ints [a, b]) 28) := at_new
    exact C.c90 _ [a, b] _ (ints_at' e rfl) (by simp)
  refine run_of_W (by rw [C.ft]; exact ft56) (by simp) ?_
  unfold b56
  simp only [List.map_cons, List.map_nil, List.getElem?_cons_zero, List.getElem?_cons_succ, List.getElem?_nil, Option.getD_some, Option.getD_none]
  by_cases hE : imgE rows l = 0
  · cases hA : athOf s with
    | none =>
      have q := q90 (imgE rows l) (if (athOf s).isSome then 0 else 8) [some (.cells [.int .i64 rows, .vs (strs l) l.length cap] 24)]
      rw [hE, hA] at q
      rw [hE] at q70
      rw [hA] at q97
      have ev : firstNZ [0, if (none : Option UInt8).isSome then 0 else 8] = 8 := rfl
      rw [ev] at q
      repeat' first | apply W.seq | apply SQn | apply W.region | apply WO.nil | apply W.block | apply W.ret | apply W.exit | apply W.skip | apply SQr | apply SQe | apply BQn | apply BQr | apply BQe | (apply BQo; exact rfl) | apply LQe | apply LQr | (apply W.condT; exact rfl) | (apply W.condF; exact rfl) | (apply W.cond; exact rfl; all_goals intro _) | (apply WO.lss; exact rfl; exact rfl; all_goals first | (intro _; exfalso; omega) | intro _) | (apply WO.neq; exact rfl; exact rfl; all_goals first | (intro _; exfalso; omega) | intro _) | (apply WO.cll; exact rfl; exact rfl; first | exact q70 _ | exact q97 _ | exact q) | (apply WO.sneq; exact rfl; exact rfl; all_goals first | (intro h; exact absurd h (by decide)) | (intro h; exact absurd rfl h) | (intro h; contradiction) | intro _) | (apply WO.clb; exact rfl; exact rfl; exact rfl; all_goals first | (intro h; exact absurd h (by decide)) | intro _) | (apply WO.cll; exact rfl; exact rfl; exact rfl) | (apply WO.hlv; exact rfl; exact rfl; exact rfl) | (apply WO.hpv; exact rfl; exact rfl; exact rfl) | (apply WO.hnv; exact rfl; exact rfl; exact rfl) | (apply WO.pl; exact rfl; exact rfl) | (apply WO.pp; exact rfl; exact rfl)
      exact ⟨.inr rfl, rfl, _, rfl, by rw [firstR, if_neg (fun h => h hE), hA]; rfl, rfl⟩
    | some b =>
      obtain rfl := athOf_some hA
      have q98 := fun h => C.c98 rows l cap b h hl
      have hb := firstCol_lt b.toNat l 0
      have q := q90 (imgE rows l) (if (athOf [b]).isSome then 0 else 8) [some (.cells [.int .i64 rows, .vs (strs l) l.length cap] 24)]
      rw [hE, hA] at q
      rw [hE] at q70
      rw [hA] at q97
      have ev : firstNZ [0, if (some b : Option UInt8).isSome then 0 else 8] = 0 := rfl
      rw [ev] at q
      repeat' first | apply W.seq | apply SQn | apply W.region | apply WO.nil | apply W.block | apply W.ret | apply W.exit | apply W.skip | apply SQr | apply SQe | apply BQn | apply BQr | apply BQe | (apply BQo; exact rfl) | apply LQe | apply LQr | (apply W.condT; exact rfl) | (apply W.condF; exact rfl) | (apply W.cond; exact rfl; all_goals intro _) | (apply WO.lss; exact rfl; exact rfl; all_goals first | (intro _; exfalso; omega) | intro _) | (apply WO.neq; exact rfl; exact rfl; all_goals first | (intro _; exfalso; omega) | intro _) | (apply WO.cll; exact rfl; exact rfl; first | exact q70 _ | exact q97 _ | exact q | exact q98 _) | (apply WO.sneq; exact rfl; exact rfl; all_goals first | (intro h; exact absurd h (by decide)) | (intro h; exact absurd rfl h) | (intro h; contradiction) | intro _) | (apply WO.clb; exact rfl; exact rfl; exact rfl; all_goals first | (intro h; exact absurd h (by decide)) | intro _) | (apply WO.cll; exact rfl; exact rfl; exact rfl) | (apply WO.hlv; exact rfl; exact rfl; exact rfl) | (apply WO.hpv; exact rfl; exact rfl; exact rfl) | (apply WO.hnv; exact rfl; exact rfl; exact rfl) | (apply WO.pl; exact rfl; exact rfl) | (apply WO.pp; exact rfl; exact rfl)
      · rename_i h
        exact ⟨.inr rfl, rfl, _, rfl, by rw [firstR, if_neg (fun h => h hE), hA]; simp only [if_pos h]; rfl, rfl⟩
      · rename_i h
        exact ⟨.inr rfl, rfl, _, rfl, by rw [firstR, if_neg (fun h => h hE), hA]; simp only [if_neg (show ¬ firstCol (b.toNat : Int) l 0 < 0 by omega)]; rfl, rfl⟩
  · have q := q90 (imgE rows l) (if (athOf s).isSome then 0 else 8) [some (.cells [.int .i64 rows, .vs (strs l) l.length cap] 24)]
    have ev : firstNZ [imgE rows l, if (athOf s).isSome then 0 else 8] = imgE rows l := by rw [firstNZ, if_neg hE]
    rw [ev] at q
    repeat' first | apply W.seq | apply SQn | apply W.region | apply WO.nil | apply W.block | apply W.ret | apply W.exit | apply W.skip | apply SQr | apply SQe | apply BQn | apply BQr | apply BQe | (apply BQo; exact rfl) | apply LQe | apply LQr | (apply W.condT; exact rfl) | (apply W.condF; exact rfl) | (apply W.cond; exact rfl; all_goals intro _) | (apply WO.lss; exact rfl; exact rfl; all_goals first | (intro _; exfalso; omega) | intro _) | (apply WO.neq; exact rfl; exact rfl; all_goals first | (intro _; exfalso; omega) | intro _) | (apply WO.cll; exact rfl; exact rfl; first | exact q70 _ | exact q97 _ | exact q) | (apply WO.sneq; exact rfl; exact rfl; all_goals first | (intro h; exact absurd h (by decide)) | (intro h; exact absurd rfl h) | (intro h; contradiction) | intro _) | (apply WO.clb; exact rfl; exact rfl; exact rfl; all_goals first | (intro h; exact absurd h (by decide)) | intro _) | (apply WO.cll; exact rfl; exact rfl; exact rfl) | (apply WO.hlv; exact rfl; exact rfl; exact rfl) | (apply WO.hpv; exact rfl; exact rfl; exact rfl) | (apply WO.hnv; exact rfl; exact rfl; exact rfl) | (apply WO.pl; exact rfl; exact rfl) | (apply WO.pp; exact rfl; exact rfl)
    exact ⟨.inr rfl, rfl, _, rfl, by rw [firstR, if_pos hE]; rfl, rfl⟩
end Go.Ab.Ch5

