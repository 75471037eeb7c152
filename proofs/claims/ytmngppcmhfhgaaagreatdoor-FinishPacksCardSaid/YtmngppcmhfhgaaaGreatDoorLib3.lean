/-
  Own work: the resolved code of some functions of chapter 5: starts.
-/
import Derived.Test.YtmngppcmhfhgaaaGreatDoorCh5Base
import Derived.Test.YtmngppcmhfhgaaaGreatDoorLib2
import Derived.Test.YtmngppcmhfhgaaaGreatDoorCh5Row
import Derived.Laws.RangeString
import Derived.Lib.DecodeN
import Derived.Test.YtmngppcmhfhgaaaGreatDoorLib1
import Derived.Deep.Slices
import Derived.Deep.Strs
import Derived.ChangeSame
import Derived.Lib.Bytealg
namespace Go.Ab.Ch5

/-- stadion/stadionlaw05.when -/
def b20 : ICode :=
 .seq (.region [⟨(.p 2), .mv (.c (.int .i64 (0))), none⟩])
  (.seq (.seq (.region [⟨(.l 5), .mv (.p 0), none⟩])
    (.cond (.l 5)
     (.seq (.region [⟨(.l 6), .mv (.p 1), none⟩,
        ⟨(.p 2), .mv (.l 6), none⟩])
      (.ret))
     (.skip)))
   (.seq (.region [⟨(.p 2), .mv (.c (.int .i64 (0))), none⟩])
    (.ret)))
theorem ft20 : FT 20 = some ⟨7, [0, 1, 4], [.var (.p 2)], b20⟩ := by kernel_rfl

/-- stadion/stadionref05.outside -/
def b87 : ICode :=
 .seq (.region [⟨(.p 3), .mv (.c (.bool false)), none⟩])
  (.seq (.region [⟨(.l 7), .mv (.p 0), none⟩,
     ⟨(.l 8), .mv (.p 1), none⟩,
     ⟨(.l 9), .bin .lss (.l 7) (.l 8), none⟩,
     ⟨(.l 10), .mv (.l 9), none⟩,
     ⟨(.l 11), .mv (.p 0), some ((.l 10), false)⟩,
     ⟨(.l 12), .mv (.p 2), some ((.l 10), false)⟩,
     ⟨(.l 13), .bin .gtr (.l 11) (.l 12), some ((.l 10), false)⟩,
     ⟨(.l 14), .pick (.l 10) (.c (.bool true)) (.l 13), none⟩,
     ⟨(.p 3), .mv (.l 14), none⟩])
   (.ret))
theorem ft87 : FT 87 = some ⟨15, [0, 1, 2, 6], [.var (.p 3)], b87⟩ := by kernel_rfl

def b90_0 : ICode :=
 .seq (.region [⟨(.l 8), .bin .lss (.p 5) (.p 4), none⟩])
  (.seq (.cond (.l 8)
    (.skip)
    (.exit 0))
   (.seq (.block 1
     (.seq (.region [⟨(.l 9), .iaddr none 1 (.p 3) (.p 5), none⟩,
        ⟨(.l 10), .load 1 false (.l 9), none⟩,
        ⟨(.p 2), .mv (.l 10), none⟩])
      (.seq (.region [⟨(.l 11), .mv (.p 2), none⟩,
         ⟨(.l 12), .bin .neq (.l 11) (.c (.int .i64 (0))), none⟩])
       (.cond (.l 12)
        (.seq (.region [⟨(.l 13), .mv (.p 2), none⟩,
           ⟨(.p 1), .mv (.l 13), none⟩])
         (.ret))
        (.skip)))))
    (.region [⟨(.l 14), .bin .add (.p 5) (.c (.int .i64 (1))), none⟩,
      ⟨(.p 5), .mv (.l 14), none⟩])))
/-- stadion/finish.first -/
def b90 : ICode :=
 .seq (.region [⟨(.p 1), .mv (.c (.int .i64 (0))), none⟩])
  (.seq (.seq (.region [⟨(.p 3), .mv (.p 0), none⟩,
      ⟨(.p 4), .len .sl (.p 3), none⟩,
      ⟨(.p 5), .mv (.c (.int .i64 (0))), none⟩])
    (.block 0
     (.loop b90_0)))
   (.seq (.region [⟨(.p 1), .mv (.c (.int .i64 (0))), none⟩])
    (.ret)))
theorem ft90 : FT 90 = some ⟨15, [0, 2, 4, 5, 6, 7], [.var (.p 1)], b90⟩ := by kernel_rfl

/-- stadion/finish.when -/
def b91 : ICode :=
 .seq (.region [⟨(.p 2), .mv (.c (.int .i64 (0))), none⟩])
  (.seq (.seq (.region [⟨(.l 5), .mv (.p 0), none⟩])
    (.cond (.l 5)
     (.seq (.region [⟨(.l 6), .mv (.p 1), none⟩,
        ⟨(.p 2), .mv (.l 6), none⟩])
      (.ret))
     (.skip)))
   (.seq (.region [⟨(.p 2), .mv (.c (.int .i64 (0))), none⟩])
    (.ret)))
theorem ft91 : FT 91 = some ⟨7, [0, 1, 4], [.var (.p 2)], b91⟩ := by kernel_rfl

/-- stadion/finish.within -/
def b121 : ICode :=
 .seq (.region [⟨(.p 3), .mv (.c (.int .i64 (0))), none⟩])
  (.seq (.region [⟨(.l 7), .mv (.p 0), none⟩,
     ⟨(.l 8), .mv (.p 1), none⟩,
     ⟨(.l 9), .bin .lss (.l 7) (.l 8), none⟩,
     ⟨(.l 10), .mv (.l 9), none⟩,
     ⟨(.l 11), .mv (.p 0), some ((.l 10), false)⟩,
     ⟨(.l 12), .mv (.p 2), some ((.l 10), false)⟩,
     ⟨(.l 13), .bin .gtr (.l 11) (.l 12), some ((.l 10), false)⟩,
     ⟨(.l 14), .pick (.l 10) (.c (.bool true)) (.l 13), none⟩,
     ⟨(.l 15), .call (.c (.fn (.func 91) [] [])) [(.l 14), (.c (.int .i64 (3)))], none⟩,
     ⟨(.p 3), .mv (.l 15), none⟩])
   (.ret))
theorem ft121 : FT 121 = some ⟨16, [0, 1, 2, 6], [.var (.p 3)], b121⟩ := by kernel_rfl

end Go.Ab.Ch5


/-
  Own work: what FinishStarts calls, one function after another.
-/
namespace Go.Ab.Ch5
variable {M : Mach} {cap : Option Nat}
abbrev fnV (k : Nat) : AV := .fn (.func k) [] []

def outI (x lo hi : Int) : Bool := decide (x < lo) || decide (hi < x)
theorem w87 (hft : M.FT = FT) (x lo hi : Int) : Run M 87 [.int .i64 x, .int .i64 lo, .int .i64 hi] [] ⟨.bool (outI x lo hi), [], []⟩ := by
  refine run_of_W (by rw [hft]; exact ft87) (by simp) ?_
  unfold b87
  simp only [List.map_cons, List.map_nil, List.getElem?_cons_zero, List.getElem?_cons_succ, List.getElem?_nil, Option.getD_some, Option.getD_none]
  repeat' first | apply W.seq | apply SQn | apply W.region | apply WO.nil | apply W.ret | (apply WO.gF; exact rfl) | (apply WO.sF; exact rfl) | (apply WO.lss; exact rfl; exact rfl; all_goals first | (intro _; exfalso; omega) | intro _) | (apply WO.gtr; exact rfl; exact rfl; all_goals first | (intro _; exfalso; omega) | intro _) | (apply WO.pkT; exact rfl; exact rfl) | (apply WO.pkF; exact rfl; exact rfl) | (apply WO.pl; exact rfl; exact rfl) | (apply WO.pp; exact rfl; exact rfl)
  all_goals exact ⟨.inr rfl, rfl, _, rfl, congrArg AV.bool (by simp_all [outI]), rfl⟩
theorem w91 (hft : M.FT = FT) (t : Bool) (e : Int) : Run M 91 [.bool t, .int .i64 e] [] ⟨.int .i64 (if t then e else 0), [], []⟩ := by
  refine run_of_W (by rw [hft]; exact ft91) (by simp) ?_
  unfold b91
  simp only [List.map_cons, List.map_nil, List.getElem?_cons_zero, List.getElem?_cons_succ, List.getElem?_nil, Option.getD_some, Option.getD_none]
  cases t
  all_goals
    repeat' first | apply W.seq | apply SQn | apply W.region | apply WO.nil | apply W.ret | apply W.skip | apply SQr | (apply W.condT; exact rfl) | (apply W.condF; exact rfl) | (apply WO.pl; exact rfl; exact rfl) | (apply WO.pp; exact rfl; exact rfl)
  all_goals exact ⟨.inr rfl, rfl, _, rfl, rfl, rfl⟩
theorem w20 (hft : M.FT = FT) (t : Bool) (e : Int) : Run M 20 [.bool t, .int .i64 e] [] ⟨.int .i64 (if t then e else 0), [], []⟩ := by
  refine run_of_W (by rw [hft]; exact ft20) (by simp) ?_
  unfold b20
  simp only [List.map_cons, List.map_nil, List.getElem?_cons_zero, List.getElem?_cons_succ, List.getElem?_nil, Option.getD_some, Option.getD_none]
  cases t
  all_goals
    repeat' first | apply W.seq | apply SQn | apply W.region | apply WO.nil | apply W.ret | apply W.skip | apply SQr | (apply W.condT; exact rfl) | (apply W.condF; exact rfl) | (apply WO.pl; exact rfl; exact rfl) | (apply WO.pp; exact rfl; exact rfl)
  all_goals exact ⟨.inr rfl, rfl, _, rfl, rfl, rfl⟩
theorem w121 (hft : M.FT = FT) (h91 : ∀ t e h, M.ext 91 [.bool t, .int .i64 e] h = some ⟨.int .i64 (if t then e else 0), h, []⟩) (x lo hi : Int) : Run M 121 [.int .i64 x, .int .i64 lo, .int .i64 hi] [] ⟨.int .i64 (if outI x lo hi then 3 else 0), [], []⟩ := by
  have q1 := h91 true 3
  have q2 := h91 false 3
  refine run_of_W (by rw [hft]; exact ft121) (by simp) ?_
  unfold b121
  simp only [List.map_cons, List.map_nil, List.getElem?_cons_zero, List.getElem?_cons_succ, List.getElem?_nil, Option.getD_some, Option.getD_none]
  repeat' first | apply W.seq | apply SQn | apply W.region | apply WO.nil | apply W.ret | (apply WO.gF; exact rfl) | (apply WO.sF; exact rfl) | (apply WO.lss; exact rfl; exact rfl; all_goals first | (intro _; exfalso; omega) | intro _) | (apply WO.gtr; exact rfl; exact rfl; all_goals first | (intro _; exfalso; omega) | intro _) | (apply WO.pkT; exact rfl; exact rfl) | (apply WO.pkF; exact rfl; exact rfl) | (apply WO.cll; exact rfl; exact rfl; first | exact q1 _ | exact q2 _) | (apply WO.pl; exact rfl; exact rfl) | (apply WO.pp; exact rfl; exact rfl)
  all_goals exact ⟨.inr rfl, rfl, _, rfl, congrArg (AV.int .i64) (by simp_all [outI]), rfl⟩

def firstNZ : List Int → Int
  | [] => 0
  | e :: r => if e = 0 then firstNZ r else e
theorem firstNZ_drop {l : List Int} {i : Nat} (h : i < l.length) : firstNZ (l.drop i) = if l[i]! = 0 then firstNZ (l.drop (i + 1)) else l[i]! := by
  rw [List.drop_eq_getElem_cons h, getElem!_pos l i h, firstNZ]
theorem loop90 (l : List Int) (hl : l.length < 4611686018427387904) {Q : Ex → StW → Prop} : ∀ (r i : Nat) (a2 : AV) (lo : List (Nat × AV)) (wr : List Nat), i + r = l.length →
    (firstNZ (l.drop i) = 0 → ∀ a2 lo wr, Q (.exit 0) ⟨⟨[.vs (ints l) l.length cap, .int .i64 0, a2, .vs (ints l) l.length cap, .int .i64 l.length, .int .i64 l.length], lo, [], []⟩, wr⟩) →
    (∀ a2 a5 lo wr, Q .ret ⟨⟨[.vs (ints l) l.length cap, .int .i64 (firstNZ (l.drop i)), a2, .vs (ints l) l.length cap, .int .i64 l.length, a5], lo, [], []⟩, wr⟩) →
    W M (.loop b90_0) ⟨⟨[.vs (ints l) l.length cap, .int .i64 0, a2, .vs (ints l) l.length cap, .int .i64 l.length, .int .i64 i], lo, [], []⟩, wr⟩ Q
  | 0, i, a2, lo, wr, hi, h1, h2 => by
    obtain rfl : i = l.length := by omega
    refine W.loop ?_
    unfold b90_0
    repeat' first | apply W.seq | apply SQn | apply W.region | apply WO.nil | apply W.exit | apply SQe | apply LQe | (apply W.condF; exact rfl) | (apply WO.lss; exact rfl; exact rfl; all_goals first | (intro _; exfalso; omega) | intro _)
    exact h1 (by simp [firstNZ]) _ _ _
  | r + 1, i, a2, lo, wr, hi, h1, h2 => by
    have e := firstNZ_drop (l := l) (i := (i : Int).toNat) (by omega)
    rw [Int.toNat_natCast] at e
    refine W.loop ?_
    unfold b90_0
    repeat' first | apply W.seq | apply SQn | apply W.region | apply WO.nil | apply W.block | apply W.ret | apply W.skip | apply SQr | apply BQn | apply BQr | apply LQr | (apply W.condT; exact rfl) | (apply W.condF; exact rfl) | (apply WO.lss; exact rfl; exact rfl; all_goals first | (intro _; exfalso; omega) | intro _) | (apply WO.neq; exact rfl; exact rfl; all_goals first | (intro _; exfalso; omega) | intro _) | (apply WO.add; exact rfl; exact rfl; omega) | (apply WO.iav; exact rfl; exact rfl; omega) | (apply WO.lda; exact rfl; exact fun _ => rfl; (first | omega | (simp only [List.length_set]; omega) | (simp; omega)); decide; exact rfl; case ia => infer_instance) | (apply WO.pl; exact rfl; exact rfl) | (apply WO.pp; exact rfl; exact rfl)
    · rename_i he
      rw [Int.toNat_natCast] at he
      rw [if_neg he] at e
      rw [e] at h2
      exact h2 _ _ _ _
    · rename_i he
      rw [Int.toNat_natCast] at he
      rw [if_pos he] at e
      rw [e] at h1 h2
      exact LQn (loop90 l hl r (i + 1) _ _ _ (by omega) h1 h2)
theorem w90 (hft : M.FT = FT) (l : List Int) (hl : l.length < 4611686018427387904) : Run M 90 [.vs (ints l) l.length cap] [] ⟨.int .i64 (firstNZ l), [], []⟩ := by
  refine run_of_W (by rw [hft]; exact ft90) (by simp) ?_
  unfold b90
  simp only [List.map_cons, List.map_nil, List.getElem?_cons_zero, List.getElem?_cons_succ, List.getElem?_nil, Option.getD_some, Option.getD_none]
  repeat' first | apply W.seq | apply SQn | apply W.region | apply WO.nil | apply W.block | (apply WO.pp; exact rfl; exact rfl)
  refine loop90 l hl l.length 0 _ _ _ (by omega) (fun h a2 lo wr => ?_) (fun a2 a5 lo wr => ?_)
  · repeat' first | apply W.seq | apply SQn | apply W.region | apply WO.nil | apply W.ret | apply BQe | (apply WO.pp; exact rfl; exact rfl)
    exact ⟨.inr rfl, rfl, _, rfl, by rw [List.drop_zero] at h; rw [h]; rfl, rfl⟩
  · repeat' first | apply SQr | apply BQr
    exact ⟨.inr rfl, rfl, _, rfl, rfl, rfl⟩

end Go.Ab.Ch5


/-
  Own work: finish.Reaction and finish.FalseStarts, and the reference's.
-/
namespace Go.Ab.Ch5
variable {M : Mach} {cap : Option Nat}

end Go.Ab.Ch5


/-
  Own work: lists that are the same; the law FinishStarts.
-/
namespace Go.Ab.Ch5
variable {M : Mach}

end Go.Ab.Ch5


/-
  Own work: the contracts of FinishStarts as a table.
-/
namespace Go.Ab.Ch5
open Go.Proofs

def specAwake : Spec := spec0 [] (.bool true)
theorem awake15 : SpecOK Tryz.prog gl 15 specAwake := spec0_ok gl_top rfl rfl o40
def specOut : Spec := fun
  | [.int .i64 x, .int .i64 lo, .int .i64 hi], h => some ⟨.bool (outI x lo hi), h, []⟩
  | _, _ => none
theorem out87 : SpecOK Tryz.prog gl 87 specOut := by
  intro xs h r hq
  unfold specOut at hq
  split at hq
  · cases hq
    exact ent_run0 seat tab_nil (w87 (M := mach Tryz.prog FT []) mach_ft _ _ _) (FrL.same rfl) rfl (.inl rfl)
  · cases hq
def specWhen : Spec := fun
  | [.bool t, .int .i64 e], h => some ⟨.int .i64 (if t then e else 0), h, []⟩
  | _, _ => none
theorem when91 : SpecOK Tryz.prog gl 91 specWhen := by
  intro xs h r hq
  unfold specWhen at hq
  split at hq
  · cases hq
    exact ent_run0 seat tab_nil (w91 (M := mach Tryz.prog FT []) mach_ft _ _) (FrL.same rfl) rfl (.inl rfl)
  · cases hq
theorem when20 : SpecOK Tryz.prog gl 20 specWhen := by
  intro xs h r hq
  unfold specWhen at hq
  split at hq
  · cases hq
    exact ent_run0 seat tab_nil (w20 (M := mach Tryz.prog FT []) mach_ft _ _) (FrL.same rfl) rfl (.inl rfl)
  · cases hq
def specRange : Spec := fun
  | [.int .i64 x, .int .i64 lo, .int .i64 hi], h => some ⟨.int .i64 (if outI x lo hi then 3 else 0), h, []⟩
  | _, _ => none
theorem range121 : SpecOK Tryz.prog gl 121 specRange := by
  intro xs h r hq
  unfold specRange at hq
  split at hq
  · cases hq
    exact ent_run0 seat (T := [(91, specWhen)]) (tab_cons when91 tab_nil) (w121 mach_ft (fun _ _ _ => by rw [mach_ext]; rfl) _ _ _) (FrL.same rfl) rfl (.inl rfl)
  · cases hq
def specFirst : Spec := fun
  | [v], h => match intsAt h v with
    | some l => if l.length < 4611686018427387904 then some ⟨.int .i64 (firstNZ l), h, []⟩ else none
    | none => none
  | _, _ => none
theorem first90 : SpecOK Tryz.prog gl 90 specFirst := by
  intro xs h r hq
  unfold specFirst at hq
  split at hq
  · split at hq
    · rename_i l hl
      split at hq
      · rename_i hn
        cases hq
        obtain ⟨S, cap, hf⟩ := (intsAt_sl hl).fr (fun _ => rfl)
        exact ent_run0 seat tab_nil (w90 (M := mach Tryz.prog FT []) mach_ft l hn) (.cons hf .nil) rfl (.inr rfl)
      · cases hq
    · cases hq
  · cases hq

end Go.Ab.Ch5


/-
  Own work: the resolved code of some functions of chapter 5: images.
-/
namespace Go.Ab.Ch5

/-- stadion/stadionlaw05.FinishImages -/
def b13 : ICode :=
 .seq (.region [⟨(.p 3), .box 24 2 (.p 0), none⟩,
    ⟨(.p 4), .mv (.c (.bool false)), none⟩])
  (.seq (.region [⟨(.l 19), .load 2 true (.p 3), none⟩,
     ⟨(.p 5), .alloc 25 [.int .i64 (0), .nilsl], none⟩,
     ⟨.no, .store 2 (.p 5) (.l 19), none⟩])
   (.seq (.seq (.region [⟨(.l 20), .call (.c (.fn (.func 15) [] [])) [], none⟩,
       ⟨(.l 21), .un .not (.l 20), none⟩,
       ⟨(.l 22), .mv (.l 21), none⟩,
       ⟨(.l 23), .load 2 true (.p 5), some ((.l 22), false)⟩,
       ⟨(.l 24), .call (.c (.fn (.func 16) [] [])) [(.l 23)], some ((.l 22), false)⟩,
       ⟨(.l 25), .un .not (.l 24), some ((.l 22), false)⟩,
       ⟨(.l 26), .pick (.l 22) (.c (.bool true)) (.l 25), none⟩,
       ⟨(.l 27), .mv (.l 26), none⟩,
       ⟨(.l 28), .mv (.p 1), some ((.l 27), false)⟩,
       ⟨(.l 29), .len .str (.l 28), some ((.l 27), false)⟩,
       ⟨(.l 30), .bin .gtr (.l 29) (.c (.int .i64 (9))), some ((.l 27), false)⟩,
       ⟨(.l 31), .pick (.l 27) (.c (.bool true)) (.l 30), none⟩])
     (.cond (.l 31)
      (.seq (.region [⟨(.l 32), .call (.c (.fn (.func 15) [] [])) [], none⟩,
         ⟨(.p 4), .mv (.l 32), none⟩])
       (.ret))
      (.skip)))
    (.seq (.region [⟨(.l 33), .load 2 true (.p 5), none⟩,
       ⟨(.l 34), .call (.c (.fn (.func 18) [] [])) [(.l 33)], none⟩,
       ⟨(.p 6), .mv (.l 34), none⟩])
     (.seq (.seq (.region [⟨(.l 35), .load 2 true (.p 3), none⟩,
         ⟨(.l 36), .call (.c (.fn (.func 70) [] [])) [(.l 35)], none⟩,
         ⟨(.l 37), .mv (.p 6), none⟩,
         ⟨(.l 38), .bin .neq (.l 36) (.l 37), none⟩])
       (.cond (.l 38)
        (.seq (.region [⟨(.p 4), .mv (.c (.bool false)), none⟩])
         (.ret))
        (.skip)))
      (.seq (.region [⟨(.l 40), .load 2 true (.p 3), none⟩,
         ⟨(.l 41), .call (.c (.fn (.func 55) [] [])) [(.l 40)], none⟩,
         ⟨(.l 39), .mv (.l 41), none⟩,
         ⟨(.l 42), .extract 0 (.l 39), none⟩,
         ⟨(.l 43), .extract 1 (.l 39), none⟩,
         ⟨(.p 7), .mv (.l 42), none⟩,
         ⟨(.p 8), .mv (.l 43), none⟩])
       (.seq (.region [⟨(.l 45), .load 2 true (.p 3), none⟩,
          ⟨(.l 46), .mv (.p 1), none⟩,
          ⟨(.l 47), .call (.c (.fn (.func 56) [] [])) [(.l 45), (.l 46)], none⟩,
          ⟨(.l 44), .mv (.l 47), none⟩,
          ⟨(.l 48), .extract 0 (.l 44), none⟩,
          ⟨(.l 49), .extract 1 (.l 44), none⟩,
          ⟨(.p 9), .mv (.l 48), none⟩,
          ⟨(.p 10), .mv (.l 49), none⟩])
        (.seq (.region [⟨(.l 51), .load 2 true (.p 3), none⟩,
           ⟨(.l 52), .call (.c (.fn (.func 71) [] [])) [(.l 51)], none⟩,
           ⟨(.l 50), .mv (.l 52), none⟩,
           ⟨(.l 53), .extract 0 (.l 50), none⟩,
           ⟨(.l 54), .extract 1 (.l 50), none⟩,
           ⟨(.p 11), .alloc 24 [.int .i64 (0), .nilsl], none⟩,
           ⟨.no, .store 2 (.p 11) (.l 53), none⟩,
           ⟨(.p 12), .mv (.l 54), none⟩])
         (.seq (.region [⟨(.l 56), .load 2 true (.p 3), none⟩,
            ⟨(.l 57), .mv (.p 2), none⟩,
            ⟨(.l 58), .call (.c (.fn (.func 66) [] [])) [(.l 56), (.l 57)], none⟩,
            ⟨(.l 55), .mv (.l 58), none⟩,
            ⟨(.l 59), .extract 0 (.l 55), none⟩,
            ⟨(.l 60), .extract 1 (.l 55), none⟩,
            ⟨(.p 13), .alloc 24 [.int .i64 (0), .nilsl], none⟩,
            ⟨.no, .store 2 (.p 13) (.l 59), none⟩,
            ⟨(.p 14), .mv (.l 60), none⟩])
          (.seq (.seq (.region [⟨(.l 61), .mv (.p 6), none⟩,
              ⟨(.l 62), .bin .neq (.l 61) (.c (.int .i64 (0))), none⟩])
            (.cond (.l 62)
             (.seq (.region [⟨(.l 63), .mv (.p 7), none⟩,
                ⟨(.l 64), .mv (.p 8), none⟩,
                ⟨(.l 65), .mv (.p 6), none⟩,
                ⟨(.l 66), .call (.c (.fn (.func 72) [] [])) [(.l 63), (.l 64), (.l 65), (.c (.nilsl))], none⟩,
                ⟨(.l 67), .mv (.l 66), none⟩,
                ⟨(.l 68), .mv (.p 9), some ((.l 67), true)⟩,
                ⟨(.l 69), .mv (.p 10), some ((.l 67), true)⟩,
                ⟨(.l 70), .mv (.p 6), some ((.l 67), true)⟩,
                ⟨(.l 71), .call (.c (.fn (.func 42) [] [])) [(.l 68), (.l 69), (.l 70), (.c (.int .i64 (0)))], some ((.l 67), true)⟩,
                ⟨(.l 72), .pick (.l 67) (.l 71) (.c (.bool false)), none⟩,
                ⟨(.l 73), .mv (.l 72), none⟩,
                ⟨(.l 74), .load 2 true (.p 11), some ((.l 73), true)⟩,
                ⟨(.l 75), .mv (.p 12), some ((.l 73), true)⟩,
                ⟨(.l 76), .mv (.p 6), some ((.l 73), true)⟩,
                ⟨(.l 77), .load 2 true (.p 5), some ((.l 73), true)⟩,
                ⟨(.l 78), .call (.c (.fn (.func 23) [] [])) [(.l 74), (.l 75), (.l 76), (.l 77)], some ((.l 73), true)⟩,
                ⟨(.l 79), .pick (.l 73) (.l 78) (.c (.bool false)), none⟩,
                ⟨(.l 80), .mv (.l 79), none⟩,
                ⟨(.l 81), .load 2 true (.p 13), some ((.l 80), true)⟩,
                ⟨(.l 82), .mv (.p 14), some ((.l 80), true)⟩,
                ⟨(.l 83), .mv (.p 6), some ((.l 80), true)⟩,
                ⟨(.l 84), .load 2 true (.p 5), some ((.l 80), true)⟩,
                ⟨(.l 85), .call (.c (.fn (.func 23) [] [])) [(.l 81), (.l 82), (.l 83), (.l 84)], some ((.l 80), true)⟩,
                ⟨(.l 86), .pick (.l 80) (.l 85) (.c (.bool false)), none⟩,
                ⟨(.p 4), .mv (.l 86), none⟩])
              (.ret))
             (.skip)))
           (.seq (.seq (.draw [(⟨(.l 87), .mv (.p 7), none⟩, []),
               (⟨(.l 88), .mv (.p 8), none⟩, [0]),
               (⟨(.l 89), .load 2 true (.p 5), none⟩, [0, 1]),
               (⟨(.l 90), .call (.c (.fn (.func 73) [] [])) [(.l 89)], none⟩, [0, 1]),
               (⟨(.l 91), .call (.c (.fn (.func 72) [] [])) [(.l 87), (.l 88), (.c (.int .i64 (0))), (.l 90)], none⟩, []),
               (⟨(.l 92), .un .not (.l 91), none⟩, []),
               (⟨(.l 93), .mv (.l 92), none⟩, []),
               (⟨(.l 94), .load 2 true (.p 11), some ((.l 93), false)⟩, []),
               (⟨(.l 95), .mv (.p 12), some ((.l 93), false)⟩, [7]),
               (⟨(.l 96), .load 2 true (.p 5), some ((.l 93), false)⟩, [7, 8]),
               (⟨(.l 97), .call (.c (.fn (.func 74) [] [])) [(.l 96)], some ((.l 93), false)⟩, [7, 8]),
               (⟨(.l 98), .call (.c (.fn (.func 23) [] [])) [(.l 94), (.l 95), (.c (.int .i64 (0))), (.l 97)], some ((.l 93), false)⟩, []),
               (⟨(.l 99), .un .not (.l 98), some ((.l 93), false)⟩, []),
               (⟨(.l 100), .pick (.l 93) (.c (.bool true)) (.l 99), none⟩, [])])
             (.cond (.l 100)
              (.seq (.region [⟨(.p 4), .mv (.c (.bool false)), none⟩])
               (.ret))
              (.skip)))
            (.seq (.region [⟨(.l 101), .mv (.p 2), none⟩,
               ⟨(.l 102), .call (.c (.fn (.func 59) [] [])) [(.l 101), (.c (.int .i64 (1))), (.c (.int .i64 (4096)))], none⟩,
               ⟨(.p 15), .mv (.l 102), none⟩])
             (.seq (.seq (.region [⟨(.l 103), .mv (.p 15), none⟩,
                 ⟨(.l 104), .bin .eql (.l 103) (.c (.int .i64 (0))), none⟩])
               (.cond (.l 104)
                (.region [⟨(.l 105), .mv (.p 2), none⟩,
                  ⟨(.l 106), .faddr 1 (.p 3), none⟩,
                  ⟨(.l 107), .load 1 false (.l 106), none⟩,
                  ⟨(.l 108), .len .sl (.l 107), none⟩,
                  ⟨(.l 109), .bin .mul (.l 105) (.l 108), none⟩,
                  ⟨(.l 110), .bin .gtr (.l 109) (.c (.int .i64 (4096))), none⟩,
                  ⟨(.l 111), .call (.c (.fn (.func 20) [] [])) [(.l 110), (.c (.int .i64 (5)))], none⟩,
                  ⟨(.p 15), .mv (.l 111), none⟩])
                (.skip)))
              (.seq (.seq (.draw [(⟨(.l 112), .mv (.p 15), none⟩, []),
                  (⟨(.l 113), .bin .neq (.l 112) (.c (.int .i64 (0))), none⟩, []),
                  (⟨(.l 114), .mv (.l 113), none⟩, []),
                  (⟨(.l 115), .load 2 true (.p 13), some ((.l 114), true)⟩, []),
                  (⟨(.l 116), .mv (.p 14), some ((.l 114), true)⟩, [3]),
                  (⟨(.l 117), .mv (.p 15), some ((.l 114), true)⟩, [3, 4]),
                  (⟨(.l 118), .load 2 true (.p 5), some ((.l 114), true)⟩, [3, 4, 5]),
                  (⟨(.l 119), .call (.c (.fn (.func 23) [] [])) [(.l 115), (.l 116), (.l 117), (.l 118)], some ((.l 114), true)⟩, []),
                  (⟨(.l 120), .un .not (.l 119), some ((.l 114), true)⟩, []),
                  (⟨(.l 121), .pick (.l 114) (.l 120) (.c (.bool false)), none⟩, []),
                  (⟨(.l 122), .mv (.l 121), none⟩, []),
                  (⟨(.l 123), .mv (.p 15), some ((.l 122), false)⟩, []),
                  (⟨(.l 124), .bin .eql (.l 123) (.c (.int .i64 (0))), some ((.l 122), false)⟩, []),
                  (⟨(.l 125), .mv (.l 124), some ((.l 122), false)⟩, []),
                  (⟨(.l 126), .load 2 true (.p 13), some ((.l 125), true)⟩, []),
                  (⟨(.l 127), .mv (.p 14), some ((.l 125), true)⟩, [14]),
                  (⟨(.l 128), .load 2 true (.p 5), some ((.l 125), true)⟩, [14, 15]),
                  (⟨(.l 129), .mv (.p 2), some ((.l 125), true)⟩, [14, 15, 16]),
                  (⟨(.l 130), .call (.c (.fn (.func 75) [] [])) [(.l 128), (.l 129)], some ((.l 125), true)⟩, [14, 15]),
                  (⟨(.l 131), .call (.c (.fn (.func 23) [] [])) [(.l 126), (.l 127), (.c (.int .i64 (0))), (.l 130)], some ((.l 125), true)⟩, []),
                  (⟨(.l 132), .un .not (.l 131), some ((.l 125), true)⟩, []),
                  (⟨(.l 133), .pick (.l 125) (.l 132) (.c (.bool false)), some ((.l 122), false)⟩, []),
                  (⟨(.l 134), .pick (.l 122) (.c (.bool true)) (.l 133), none⟩, [])])
                (.cond (.l 134)
                 (.seq (.region [⟨(.p 4), .mv (.c (.bool false)), none⟩])
                  (.ret))
                 (.skip)))
               (.seq (.seq (.region [⟨(.l 135), .mv (.p 1), none⟩,
                   ⟨(.l 136), .call (.c (.fn (.func 27) [] [])) [(.l 135)], none⟩,
                   ⟨(.l 137), .un .not (.l 136), none⟩])
                 (.cond (.l 137)
                  (.seq (.region [⟨(.l 138), .mv (.p 9), none⟩,
                     ⟨(.l 139), .mv (.p 10), none⟩,
                     ⟨(.l 140), .call (.c (.fn (.func 42) [] [])) [(.l 138), (.l 139), (.c (.int .i64 (8))), (.c (.int .i64 (0)))], none⟩,
                     ⟨(.p 4), .mv (.l 140), none⟩])
                   (.ret))
                  (.skip)))
                (.seq (.draw [(⟨(.l 141), .load 2 true (.p 5), none⟩, []),
                   (⟨(.l 142), .mv (.p 1), none⟩, [0]),
                   (⟨(.l 143), .index (.l 142) (.c (.int .i64 (0))), none⟩, [0]),
                   (⟨(.l 144), .call (.c (.fn (.func 28) [] [])) [(.l 141), (.l 143)], none⟩, []),
                   (⟨(.p 16), .mv (.l 144), none⟩, [])])
                 (.seq (.region [⟨(.l 145), .mv (.p 9), none⟩,
                    ⟨(.l 146), .mv (.p 10), none⟩,
                    ⟨(.l 147), .mv (.p 16), none⟩,
                    ⟨(.l 148), .bin .lss (.l 147) (.c (.int .i64 (0))), none⟩,
                    ⟨(.l 149), .call (.c (.fn (.func 20) [] [])) [(.l 148), (.c (.int .i64 (7)))], none⟩,
                    ⟨(.l 150), .mv (.p 16), none⟩,
                    ⟨(.l 151), .call (.c (.fn (.func 42) [] [])) [(.l 145), (.l 146), (.l 149), (.l 150)], none⟩,
                    ⟨(.p 4), .mv (.l 151), none⟩])
                  (.ret)))))))))))))))))
def b16_0 : ICode :=
 .seq (.seq (.region [⟨(.l 20), .mv (.p 3), none⟩,
     ⟨(.l 21), .faddr 1 (.p 1), none⟩,
     ⟨(.l 22), .load 1 false (.l 21), none⟩,
     ⟨(.l 23), .len .sl (.l 22), none⟩,
     ⟨(.l 24), .bin .lss (.l 20) (.l 23), none⟩])
   (.cond (.l 24)
    (.skip)
    (.exit 0)))
  (.seq (.block 1
    (.seq (.region [⟨(.l 27), .faddr 1 (.p 1), none⟩,
       ⟨(.l 28), .load 1 false (.l 27), none⟩,
       ⟨(.l 29), .mv (.p 3), none⟩,
       ⟨(.l 30), .iaddr none 1 (.l 28) (.l 29), none⟩,
       ⟨(.l 31), .load 1 false (.l 30), none⟩,
       ⟨(.l 32), .len .str (.l 31), none⟩,
       ⟨(.l 33), .bin .gtr (.l 32) (.c (.int .i64 (66))), none⟩])
     (.cond (.l 33)
      (.seq (.region [⟨(.p 2), .mv (.c (.bool false)), none⟩])
       (.ret))
      (.skip))))
   (.region [⟨(.l 25), .mv (.p 3), none⟩,
     ⟨(.l 26), .bin .add (.l 25) (.c (.int .i64 (1))), none⟩,
     ⟨(.p 3), .mv (.l 26), none⟩]))
/-- stadion/stadionref05.Short -/
def b16 : ICode :=
 .seq (.region [⟨(.p 1), .box 25 2 (.p 0), none⟩,
    ⟨(.p 2), .mv (.c (.bool false)), none⟩])
  (.seq (.seq (.region [⟨(.l 4), .faddr 1 (.p 1), none⟩,
      ⟨(.l 5), .load 1 false (.l 4), none⟩,
      ⟨(.l 6), .len .sl (.l 5), none⟩,
      ⟨(.l 7), .bin .gtr (.l 6) (.c (.int .i64 (60))), none⟩,
      ⟨(.l 8), .mv (.l 7), none⟩,
      ⟨(.l 9), .faddr 1 (.p 1), some ((.l 8), true)⟩,
      ⟨(.l 10), .load 1 false (.l 9), some ((.l 8), true)⟩,
      ⟨(.l 11), .len .sl (.l 10), some ((.l 8), true)⟩,
      ⟨(.l 12), .bin .leq (.l 11) (.c (.int .i64 (4096))), some ((.l 8), true)⟩,
      ⟨(.l 13), .pick (.l 8) (.l 12) (.c (.bool false)), none⟩,
      ⟨(.l 14), .mv (.l 13), none⟩,
      ⟨(.l 15), .faddr 1 (.p 1), some ((.l 14), false)⟩,
      ⟨(.l 16), .load 1 false (.l 15), some ((.l 14), false)⟩,
      ⟨(.l 17), .len .sl (.l 16), some ((.l 14), false)⟩,
      ⟨(.l 18), .bin .gtr (.l 17) (.c (.int .i64 (4098))), some ((.l 14), false)⟩,
      ⟨(.l 19), .pick (.l 14) (.c (.bool true)) (.l 18), none⟩])
    (.cond (.l 19)
     (.seq (.region [⟨(.p 2), .mv (.c (.bool false)), none⟩])
      (.ret))
     (.skip)))
   (.seq (.seq (.region [⟨(.p 3), .mv (.c (.int .i64 (0))), none⟩])
     (.block 0
      (.loop b16_0)))
    (.seq (.region [⟨(.p 2), .mv (.c (.bool true)), none⟩])
     (.ret))))
theorem ft16 : FT 16 = some ⟨34, [0, 1, 2, 3], [.var (.p 2)], b16⟩ := by kernel_rfl

def b18_0 : ICode :=
 .seq (.seq (.region [⟨(.l 16), .mv (.p 3), none⟩,
     ⟨(.l 17), .faddr 1 (.p 1), none⟩,
     ⟨(.l 18), .load 1 false (.l 17), none⟩,
     ⟨(.l 19), .len .sl (.l 18), none⟩,
     ⟨(.l 20), .bin .lss (.l 16) (.l 19), none⟩])
   (.cond (.l 20)
    (.skip)
    (.exit 0)))
  (.seq (.block 1
    (.seq (.draw [(⟨(.l 23), .faddr 1 (.p 1), none⟩, []),
       (⟨(.l 24), .load 1 false (.l 23), none⟩, []),
       (⟨(.l 25), .mv (.p 3), none⟩, [0, 1]),
       (⟨(.l 26), .iaddr none 1 (.l 24) (.l 25), none⟩, []),
       (⟨(.l 27), .load 1 false (.l 26), none⟩, []),
       (⟨(.l 28), .faddr 0 (.p 1), none⟩, [0, 1, 2, 3, 4]),
       (⟨(.l 29), .load 1 false (.l 28), none⟩, [0, 1, 2, 3, 4]),
       (⟨(.l 30), .call (.c (.fn (.func 88) [] [])) [(.l 27), (.l 29)], none⟩, []),
       (⟨(.p 4), .mv (.l 30), none⟩, [])])
     (.seq (.region [⟨(.l 31), .mv (.p 4), none⟩,
        ⟨(.l 32), .bin .neq (.l 31) (.c (.int .i64 (0))), none⟩])
      (.cond (.l 32)
       (.seq (.region [⟨(.l 33), .mv (.p 4), none⟩,
          ⟨(.p 2), .mv (.l 33), none⟩])
        (.ret))
       (.skip)))))
   (.region [⟨(.l 21), .mv (.p 3), none⟩,
     ⟨(.l 22), .bin .add (.l 21) (.c (.int .i64 (1))), none⟩,
     ⟨(.p 3), .mv (.l 22), none⟩]))
/-- stadion/stadionref05.CheckImage -/
def b18 : ICode :=
 .seq (.region [⟨(.p 1), .box 25 2 (.p 0), none⟩,
    ⟨(.p 2), .mv (.c (.int .i64 (0))), none⟩])
  (.seq (.seq (.region [⟨(.l 5), .faddr 0 (.p 1), none⟩,
      ⟨(.l 6), .load 1 false (.l 5), none⟩,
      ⟨(.l 7), .call (.c (.fn (.func 87) [] [])) [(.l 6), (.c (.int .i64 (1))), (.c (.int .i64 (64)))], none⟩])
    (.cond (.l 7)
     (.seq (.region [⟨(.p 2), .mv (.c (.int .i64 (3))), none⟩])
      (.ret))
     (.skip)))
   (.seq (.seq (.region [⟨(.l 8), .faddr 1 (.p 1), none⟩,
       ⟨(.l 9), .load 1 false (.l 8), none⟩,
       ⟨(.l 10), .len .sl (.l 9), none⟩,
       ⟨(.l 11), .bin .eql (.l 10) (.c (.int .i64 (0))), none⟩])
     (.cond (.l 11)
      (.seq (.region [⟨(.p 2), .mv (.c (.int .i64 (12))), none⟩])
       (.ret))
      (.skip)))
    (.seq (.seq (.region [⟨(.l 12), .faddr 1 (.p 1), none⟩,
        ⟨(.l 13), .load 1 false (.l 12), none⟩,
        ⟨(.l 14), .len .sl (.l 13), none⟩,
        ⟨(.l 15), .bin .gtr (.l 14) (.c (.int .i64 (4096))), none⟩])
      (.cond (.l 15)
       (.seq (.region [⟨(.p 2), .mv (.c (.int .i64 (5))), none⟩])
        (.ret))
       (.skip)))
     (.seq (.seq (.region [⟨(.p 3), .mv (.c (.int .i64 (0))), none⟩])
       (.block 0
        (.loop b18_0)))
      (.seq (.region [⟨(.p 2), .mv (.c (.int .i64 (0))), none⟩])
       (.ret))))))
theorem ft18 : FT 18 = some ⟨34, [0, 1, 2, 3, 4], [.var (.p 2)], b18⟩ := by kernel_rfl

/-- stadion/stadionlaw05.image -/
def b23 : ICode :=
 .seq (.region [⟨(.p 4), .box 24 2 (.p 0), none⟩,
    ⟨(.p 5), .box 25 2 (.p 3), none⟩,
    ⟨(.p 6), .mv (.c (.bool false)), none⟩])
  (.seq (.seq (.region [⟨(.l 9), .mv (.p 2), none⟩,
      ⟨(.l 10), .bin .neq (.l 9) (.c (.int .i64 (0))), none⟩])
    (.cond (.l 10)
     (.seq (.region [⟨(.l 11), .faddr 0 (.p 4), none⟩,
        ⟨(.l 12), .load 1 false (.l 11), none⟩,
        ⟨(.l 13), .bin .eql (.l 12) (.c (.int .i64 (0))), none⟩,
        ⟨(.l 14), .mv (.l 13), none⟩,
        ⟨(.l 15), .faddr 1 (.p 4), some ((.l 14), true)⟩,
        ⟨(.l 16), .load 1 false (.l 15), some ((.l 14), true)⟩,
        ⟨(.l 17), .len .sl (.l 16), some ((.l 14), true)⟩,
        ⟨(.l 18), .bin .eql (.l 17) (.c (.int .i64 (0))), some ((.l 14), true)⟩,
        ⟨(.l 19), .pick (.l 14) (.l 18) (.c (.bool false)), none⟩,
        ⟨(.l 20), .mv (.l 19), none⟩,
        ⟨(.l 21), .mv (.p 1), some ((.l 20), true)⟩,
        ⟨(.l 22), .mv (.p 2), some ((.l 20), true)⟩,
        ⟨(.l 23), .bin .eql (.l 21) (.l 22), some ((.l 20), true)⟩,
        ⟨(.l 24), .pick (.l 20) (.l 23) (.c (.bool false)), none⟩,
        ⟨(.p 6), .mv (.l 24), none⟩])
      (.ret))
     (.skip)))
   (.seq (.region [⟨(.l 25), .mv (.p 1), none⟩,
      ⟨(.l 26), .bin .eql (.l 25) (.c (.int .i64 (0))), none⟩,
      ⟨(.l 27), .mv (.l 26), none⟩,
      ⟨(.l 28), .load 2 true (.p 4), some ((.l 27), true)⟩,
      ⟨(.l 29), .load 2 true (.p 5), some ((.l 27), true)⟩,
      ⟨(.l 30), .call (.c (.fn (.func 76) [] [])) [(.l 28), (.l 29)], some ((.l 27), true)⟩,
      ⟨(.l 31), .pick (.l 27) (.l 30) (.c (.bool false)), none⟩,
      ⟨(.p 6), .mv (.l 31), none⟩])
    (.ret)))
theorem ft23 : FT 23 = some ⟨32, [0, 1, 2, 3, 4, 7, 8], [.var (.p 6)], b23⟩ := by kernel_rfl

def b66_0 : ICode :=
 .seq (.region [⟨(.l 31), .bin .lss (.p 10) (.p 9), none⟩])
  (.seq (.cond (.l 31)
    (.skip)
    (.exit 0))
   (.seq (.block 1
     (.seq (.region [⟨(.l 32), .iaddr none 1 (.p 8) (.p 10), none⟩,
        ⟨(.l 33), .load 1 false (.l 32), none⟩,
        ⟨(.p 7), .mv (.l 33), none⟩])
      (.region [⟨(.l 34), .mv (.p 6), none⟩,
        ⟨(.l 35), .mv (.p 7), none⟩,
        ⟨(.l 36), .bslice 9 1 1 [.str []] [(0, 1, (.l 35))], none⟩,
        ⟨(.l 37), .mv (.p 1), none⟩,
        ⟨(.l 38), .call (.c (.fn (.func 150) [] [])) [(.l 36), (.l 37)], none⟩,
        ⟨(.l 39), .append 9 1 16 (.l 34) (.l 38), none⟩,
        ⟨(.p 6), .mv (.l 39), none⟩])))
    (.region [⟨(.l 40), .bin .add (.p 10) (.c (.int .i64 (1))), none⟩,
      ⟨(.p 10), .mv (.l 40), none⟩])))
/-- stadion/finish.Stretched -/
def b66 : ICode :=
 .seq (.region [⟨(.p 2), .box 24 2 (.p 0), none⟩,
    ⟨(.p 3), .alloc 24 [.int .i64 (0), .nilsl], none⟩,
    ⟨(.p 4), .mv (.c (.int .i64 (0))), none⟩])
  (.seq (.seq (.draw [(⟨(.l 10), .load 2 true (.p 2), none⟩, []),
      (⟨(.l 11), .call (.c (.fn (.func 70) [] [])) [(.l 10)], none⟩, []),
      (⟨(.l 12), .mv (.p 1), none⟩, [0, 1]),
      (⟨(.l 13), .call (.c (.fn (.func 121) [] [])) [(.l 12), (.c (.int .i64 (1))), (.c (.int .i64 (4096)))], none⟩, []),
      (⟨(.l 14), .faddr 1 (.p 2), none⟩, [0, 1, 2, 3]),
      (⟨(.l 15), .load 1 false (.l 14), none⟩, [0, 1, 2, 3]),
      (⟨(.l 16), .len .sl (.l 15), none⟩, [0, 1, 2, 3]),
      (⟨(.l 17), .mv (.p 1), none⟩, [0, 1, 2, 3, 4, 5, 6]),
      (⟨(.l 18), .bin .mul (.l 16) (.l 17), none⟩, [0, 1, 2, 3]),
      (⟨(.l 19), .bin .gtr (.l 18) (.c (.int .i64 (4096))), none⟩, [0, 1, 2, 3]),
      (⟨(.l 20), .call (.c (.fn (.func 91) [] [])) [(.l 19), (.c (.int .i64 (5)))], none⟩, []),
      (⟨(.l 21), .bslice 28 3 1 [.int .i64 (0)] [(0, 1, (.l 11)), (1, 1, (.l 13)), (2, 1, (.l 20))], none⟩, []),
      (⟨(.l 22), .call (.c (.fn (.func 90) [] [])) [(.l 21)], none⟩, []),
      (⟨(.p 5), .mv (.l 22), none⟩, [])])
    (.seq (.region [⟨(.l 23), .mv (.p 5), none⟩,
       ⟨(.l 24), .bin .neq (.l 23) (.c (.int .i64 (0))), none⟩])
     (.cond (.l 24)
      (.seq (.region [⟨(.l 25), .build [.int .i64 (0), .nilsl] [], none⟩,
         ⟨(.l 26), .mv (.p 5), none⟩,
         ⟨.no, .store 2 (.p 3) (.l 25), none⟩,
         ⟨(.p 4), .mv (.l 26), none⟩])
       (.ret))
      (.skip))))
   (.seq (.region [⟨(.p 6), .mv (.c (.nilsl)), none⟩])
    (.seq (.seq (.region [⟨(.l 27), .faddr 1 (.p 2), none⟩,
        ⟨(.p 8), .load 1 false (.l 27), none⟩,
        ⟨(.p 9), .len .sl (.p 8), none⟩,
        ⟨(.p 10), .mv (.c (.int .i64 (0))), none⟩])
      (.block 0
       (.loop b66_0)))
     (.seq (.region [⟨(.l 41), .faddr 0 (.p 2), none⟩,
        ⟨(.l 42), .load 1 false (.l 41), none⟩,
        ⟨(.l 43), .mv (.p 6), none⟩,
        ⟨(.l 44), .build [.int .i64 (0), .nilsl] [(0, 1, (.l 42)), (1, 1, (.l 43))], none⟩,
        ⟨.no, .store 2 (.p 3) (.l 44), none⟩,
        ⟨(.p 4), .mv (.c (.int .i64 (0))), none⟩])
      (.ret)))))
theorem ft66 : FT 66 = some ⟨45, [0, 1, 2, 4, 5, 6, 7, 9, 28, 29, 30], [.cell 2 true (.p 3), .var (.p 4)], b66⟩ := by kernel_rfl

def b70_0 : ICode :=
 .seq (.region [⟨(.l 29), .bin .lss (.p 8) (.p 7), none⟩])
  (.seq (.cond (.l 29)
    (.skip)
    (.exit 0))
   (.seq (.block 1
     (.seq (.region [⟨(.l 30), .iaddr none 1 (.p 6) (.p 8), none⟩,
        ⟨(.l 31), .load 1 false (.l 30), none⟩,
        ⟨(.p 4), .mv (.l 31), none⟩])
      (.seq (.region [⟨(.l 32), .mv (.p 4), none⟩,
         ⟨(.l 33), .len .str (.l 32), none⟩,
         ⟨(.l 34), .faddr 0 (.p 1), none⟩,
         ⟨(.l 35), .load 1 false (.l 34), none⟩,
         ⟨(.l 36), .bin .neq (.l 33) (.l 35), none⟩,
         ⟨(.l 37), .call (.c (.fn (.func 91) [] [])) [(.l 36), (.c (.int .i64 (2)))], none⟩,
         ⟨(.l 38), .mv (.p 4), none⟩,
         ⟨(.l 39), .call (.c (.fn (.func 153) [] [])) [(.l 38)], none⟩,
         ⟨(.l 40), .un .not (.l 39), none⟩,
         ⟨(.l 41), .call (.c (.fn (.func 91) [] [])) [(.l 40), (.c (.int .i64 (1)))], none⟩,
         ⟨(.l 42), .bslice 28 2 1 [.int .i64 (0)] [(0, 1, (.l 37)), (1, 1, (.l 41))], none⟩,
         ⟨(.l 43), .call (.c (.fn (.func 90) [] [])) [(.l 42)], none⟩,
         ⟨(.p 5), .mv (.l 43), none⟩])
       (.seq (.region [⟨(.l 44), .mv (.p 5), none⟩,
          ⟨(.l 45), .bin .neq (.l 44) (.c (.int .i64 (0))), none⟩])
        (.cond (.l 45)
         (.seq (.region [⟨(.l 46), .mv (.p 5), none⟩,
            ⟨(.p 2), .mv (.l 46), none⟩])
          (.ret))
         (.skip))))))
    (.region [⟨(.l 47), .bin .add (.p 8) (.c (.int .i64 (1))), none⟩,
      ⟨(.p 8), .mv (.l 47), none⟩])))
/-- stadion/finish.CheckImage -/
def b70 : ICode :=
 .seq (.region [⟨(.p 1), .box 24 2 (.p 0), none⟩,
    ⟨(.p 2), .mv (.c (.int .i64 (0))), none⟩])
  (.seq (.seq (.draw [(⟨(.l 7), .faddr 0 (.p 1), none⟩, []),
      (⟨(.l 8), .load 1 false (.l 7), none⟩, []),
      (⟨(.l 9), .call (.c (.fn (.func 121) [] [])) [(.l 8), (.c (.int .i64 (1))), (.c (.int .i64 (64)))], none⟩, []),
      (⟨(.l 10), .faddr 1 (.p 1), none⟩, [0, 1, 2]),
      (⟨(.l 11), .load 1 false (.l 10), none⟩, [0, 1, 2]),
      (⟨(.l 12), .len .sl (.l 11), none⟩, [0, 1, 2]),
      (⟨(.l 13), .bin .eql (.l 12) (.c (.int .i64 (0))), none⟩, [0, 1, 2]),
      (⟨(.l 14), .call (.c (.fn (.func 91) [] [])) [(.l 13), (.c (.int .i64 (12)))], none⟩, []),
      (⟨(.l 15), .faddr 1 (.p 1), none⟩, [0, 1, 2, 3, 4, 5, 6, 7]),
      (⟨(.l 16), .load 1 false (.l 15), none⟩, [0, 1, 2, 3, 4, 5, 6, 7]),
      (⟨(.l 17), .len .sl (.l 16), none⟩, [0, 1, 2, 3, 4, 5, 6, 7]),
      (⟨(.l 18), .bin .gtr (.l 17) (.c (.int .i64 (4096))), none⟩, [0, 1, 2, 3, 4, 5, 6, 7]),
      (⟨(.l 19), .call (.c (.fn (.func 91) [] [])) [(.l 18), (.c (.int .i64 (5)))], none⟩, []),
      (⟨(.l 20), .bslice 28 3 1 [.int .i64 (0)] [(0, 1, (.l 9)), (1, 1, (.l 14)), (2, 1, (.l 19))], none⟩, []),
      (⟨(.l 21), .call (.c (.fn (.func 90) [] [])) [(.l 20)], none⟩, []),
      (⟨(.p 3), .mv (.l 21), none⟩, [])])
    (.seq (.region [⟨(.l 22), .mv (.p 3), none⟩,
       ⟨(.l 23), .bin .neq (.l 22) (.c (.int .i64 (0))), none⟩])
     (.cond (.l 23)
      (.seq (.region [⟨(.l 24), .mv (.p 3), none⟩,
         ⟨(.p 2), .mv (.l 24), none⟩])
       (.ret))
      (.skip))))
   (.seq (.seq (.region [⟨(.l 25), .faddr 1 (.p 1), none⟩,
       ⟨(.p 6), .load 1 false (.l 25), none⟩,
       ⟨(.p 7), .len .sl (.p 6), none⟩,
       ⟨(.p 8), .mv (.c (.int .i64 (0))), none⟩])
     (.block 0
      (.loop b70_0)))
    (.seq (.region [⟨(.p 2), .mv (.c (.int .i64 (0))), none⟩])
     (.ret))))
theorem ft70 : FT 70 = some ⟨48, [0, 1, 2, 3, 5, 6, 26, 27, 28], [.var (.p 2)], b70⟩ := by kernel_rfl

/-- stadion/finish.Mirrored -/
def b71 : ICode :=
 .seq (.region [⟨(.p 1), .box 24 2 (.p 0), none⟩,
    ⟨(.p 2), .alloc 24 [.int .i64 (0), .nilsl], none⟩,
    ⟨(.p 3), .mv (.c (.int .i64 (0))), none⟩])
  (.seq (.seq (.region [⟨(.l 5), .load 2 true (.p 1), none⟩,
      ⟨(.l 6), .call (.c (.fn (.func 70) [] [])) [(.l 5)], none⟩,
      ⟨(.p 4), .mv (.l 6), none⟩])
    (.seq (.region [⟨(.l 7), .mv (.p 4), none⟩,
       ⟨(.l 8), .bin .neq (.l 7) (.c (.int .i64 (0))), none⟩])
     (.cond (.l 8)
      (.seq (.region [⟨(.l 9), .build [.int .i64 (0), .nilsl] [], none⟩,
         ⟨(.l 10), .mv (.p 4), none⟩,
         ⟨.no, .store 2 (.p 2) (.l 9), none⟩,
         ⟨(.p 3), .mv (.l 10), none⟩])
       (.ret))
      (.skip))))
   (.seq (.draw [(⟨(.l 11), .faddr 0 (.p 1), none⟩, []),
      (⟨(.l 12), .load 1 false (.l 11), none⟩, []),
      (⟨(.l 13), .faddr 1 (.p 1), none⟩, [0, 1]),
      (⟨(.l 14), .load 1 false (.l 13), none⟩, [0, 1]),
      (⟨(.l 15), .call (.c (.fn (.func 154) [] [])) [(.l 14)], none⟩, [0, 1]),
      (⟨(.l 16), .build [.int .i64 (0), .nilsl] [(0, 1, (.l 12)), (1, 1, (.l 15))], none⟩, []),
      (⟨.no, .store 2 (.p 2) (.l 16), none⟩, []),
      (⟨(.p 3), .mv (.c (.int .i64 (0))), none⟩, [])])
    (.ret)))
theorem ft71 : FT 71 = some ⟨17, [0, 1, 2, 3, 4], [.cell 2 true (.p 2), .var (.p 3)], b71⟩ := by kernel_rfl

/-- stadion/stadionref05.Same -/
def b76 : ICode :=
 .seq (.region [⟨(.p 2), .box 25 2 (.p 0), none⟩,
    ⟨(.p 3), .box 25 2 (.p 1), none⟩,
    ⟨(.p 4), .mv (.c (.bool false)), none⟩])
  (.seq (.region [⟨(.l 5), .faddr 0 (.p 2), none⟩,
     ⟨(.l 6), .load 1 false (.l 5), none⟩,
     ⟨(.l 7), .faddr 0 (.p 3), none⟩,
     ⟨(.l 8), .load 1 false (.l 7), none⟩,
     ⟨(.l 9), .bin .eql (.l 6) (.l 8), none⟩,
     ⟨(.l 10), .mv (.l 9), none⟩,
     ⟨(.l 11), .faddr 1 (.p 2), some ((.l 10), true)⟩,
     ⟨(.l 12), .load 1 false (.l 11), some ((.l 10), true)⟩,
     ⟨(.l 13), .faddr 1 (.p 3), some ((.l 10), true)⟩,
     ⟨(.l 14), .load 1 false (.l 13), some ((.l 10), true)⟩,
     ⟨(.l 15), .call (.c (.fn (.func 79) [] [])) [(.l 12), (.l 14)], some ((.l 10), true)⟩,
     ⟨(.l 16), .pick (.l 10) (.l 15) (.c (.bool false)), none⟩,
     ⟨(.p 4), .mv (.l 16), none⟩])
   (.ret))
theorem ft76 : FT 76 = some ⟨17, [0, 1, 2, 3, 4], [.var (.p 4)], b76⟩ := by kernel_rfl

def b79_0 : ICode :=
 .seq (.seq (.region [⟨(.l 11), .mv (.p 3), none⟩,
     ⟨(.l 12), .mv (.p 0), none⟩,
     ⟨(.l 13), .len .sl (.l 12), none⟩,
     ⟨(.l 14), .bin .lss (.l 11) (.l 13), none⟩])
   (.cond (.l 14)
    (.skip)
    (.exit 0)))
  (.seq (.block 1
    (.seq (.draw [(⟨(.l 17), .mv (.p 0), none⟩, []),
       (⟨(.l 18), .mv (.p 3), none⟩, [0]),
       (⟨(.l 19), .iaddr none 1 (.l 17) (.l 18), none⟩, []),
       (⟨(.l 20), .load 1 false (.l 19), none⟩, []),
       (⟨(.l 21), .mv (.p 1), none⟩, [0, 1, 2, 3]),
       (⟨(.l 22), .mv (.p 3), none⟩, [0, 1, 2, 3, 4]),
       (⟨(.l 23), .iaddr none 1 (.l 21) (.l 22), none⟩, [0, 1, 2, 3]),
       (⟨(.l 24), .load 1 false (.l 23), none⟩, [0, 1, 2, 3]),
       (⟨(.l 25), .bin .neq (.l 20) (.l 24), none⟩, [])])
     (.cond (.l 25)
      (.seq (.region [⟨(.p 2), .mv (.c (.bool false)), none⟩])
       (.ret))
      (.skip))))
   (.region [⟨(.l 15), .mv (.p 3), none⟩,
     ⟨(.l 16), .bin .add (.l 15) (.c (.int .i64 (1))), none⟩,
     ⟨(.p 3), .mv (.l 16), none⟩]))
/-- stadion/stadionref01.SameWords -/
def b79 : ICode :=
 .seq (.region [⟨(.p 2), .mv (.c (.bool false)), none⟩])
  (.seq (.seq (.region [⟨(.l 6), .mv (.p 0), none⟩,
      ⟨(.l 7), .len .sl (.l 6), none⟩,
      ⟨(.l 8), .mv (.p 1), none⟩,
      ⟨(.l 9), .len .sl (.l 8), none⟩,
      ⟨(.l 10), .bin .neq (.l 7) (.l 9), none⟩])
    (.cond (.l 10)
     (.seq (.region [⟨(.p 2), .mv (.c (.bool false)), none⟩])
      (.ret))
     (.skip)))
   (.seq (.seq (.region [⟨(.p 3), .mv (.c (.int .i64 (0))), none⟩])
     (.block 0
      (.loop b79_0)))
    (.seq (.region [⟨(.p 2), .mv (.c (.bool true)), none⟩])
     (.ret))))
theorem ft79 : FT 79 = some ⟨26, [0, 1, 4, 5], [.var (.p 2)], b79⟩ := by kernel_rfl

def b88_0 : ICode :=
 .seq (.seq (.region [⟨(.l 10), .mv (.p 3), none⟩,
     ⟨(.l 11), .mv (.p 0), none⟩,
     ⟨(.l 12), .len .str (.l 11), none⟩,
     ⟨(.l 13), .bin .lss (.l 10) (.l 12), none⟩])
   (.cond (.l 13)
    (.skip)
    (.exit 0)))
  (.seq (.block 1
    (.seq (.region [⟨(.l 16), .mv (.p 0), none⟩,
       ⟨(.l 17), .mv (.p 3), none⟩,
       ⟨(.l 18), .index (.l 16) (.l 17), none⟩,
       ⟨(.l 19), .call (.c (.fn (.func 158) [] [])) [(.l 18)], none⟩,
       ⟨(.l 20), .un .not (.l 19), none⟩])
     (.cond (.l 20)
      (.seq (.region [⟨(.p 2), .mv (.c (.int .i64 (1))), none⟩])
       (.ret))
      (.skip))))
   (.region [⟨(.l 14), .mv (.p 3), none⟩,
     ⟨(.l 15), .bin .add (.l 14) (.c (.int .i64 (1))), none⟩,
     ⟨(.p 3), .mv (.l 15), none⟩]))
/-- stadion/stadionref05.CheckColumn -/
def b88 : ICode :=
 .seq (.region [⟨(.p 2), .mv (.c (.int .i64 (0))), none⟩])
  (.seq (.seq (.region [⟨(.l 6), .mv (.p 0), none⟩,
      ⟨(.l 7), .len .str (.l 6), none⟩,
      ⟨(.l 8), .mv (.p 1), none⟩,
      ⟨(.l 9), .bin .neq (.l 7) (.l 8), none⟩])
    (.cond (.l 9)
     (.seq (.region [⟨(.p 2), .mv (.c (.int .i64 (2))), none⟩])
      (.ret))
     (.skip)))
   (.seq (.seq (.region [⟨(.p 3), .mv (.c (.int .i64 (0))), none⟩])
     (.block 0
      (.loop b88_0)))
    (.seq (.region [⟨(.p 2), .mv (.c (.int .i64 (0))), none⟩])
     (.ret))))
theorem ft88 : FT 88 = some ⟨21, [0, 1, 4, 5], [.var (.p 2)], b88⟩ := by kernel_rfl

def b150_0 : ICode :=
 .seq (.seq (.region [⟨(.l 34), .mv (.p 6), none⟩,
     ⟨(.l 35), .mv (.p 5), none⟩,
     ⟨(.l 36), .len .sl (.l 35), none⟩,
     ⟨(.l 37), .bin .lss (.l 34) (.l 36), none⟩])
   (.cond (.l 37)
    (.skip)
    (.exit 0)))
  (.block 1
   (.draw [(⟨(.l 38), .mv (.p 6), none⟩, []),
     (⟨(.l 39), .mv (.p 5), none⟩, [0]),
     (⟨(.l 40), .mv (.p 6), none⟩, [0, 1]),
     (⟨(.l 41), .slice .sl 1 (.l 39) (some (.l 40)) none none, none⟩, [0]),
     (⟨(.l 42), .mv (.p 5), none⟩, [0, 1, 2, 3]),
     (⟨(.l 43), .mv (.p 6), none⟩, [0, 1, 2, 3, 4]),
     (⟨(.l 44), .slice .sl 1 (.l 42) none (some (.l 43)) none, none⟩, [0, 1, 2, 3]),
     (⟨(.l 45), .copy 1 (.l 41) (.l 44), none⟩, [0]),
     (⟨(.l 46), .bin .add (.l 38) (.l 45), none⟩, []),
     (⟨(.p 6), .mv (.l 46), none⟩, [])]))
/-- slices.Repeat[[]string,string] -/
def b150 : ICode :=
 .seq (.region [⟨(.p 2), .mv (.c (.nilsl)), none⟩])
  (.seq (.seq (.region [⟨(.l 9), .mv (.p 1), none⟩,
      ⟨(.l 10), .bin .lss (.l 9) (.c (.int .i64 (0))), none⟩])
    (.cond (.l 10)
     (.bad)
     (.skip)))
   (.seq (.region [⟨(.l 13), .mv (.p 0), none⟩,
      ⟨(.l 14), .len .sl (.l 13), none⟩,
      ⟨(.l 15), .convInt .u64 (.l 14), none⟩,
      ⟨(.l 16), .mv (.p 1), none⟩,
      ⟨(.l 17), .convInt .u64 (.l 16), none⟩,
      ⟨(.l 18), .call (.c (.fn (.func 203) [] [])) [(.l 15), (.l 17)], none⟩,
      ⟨(.l 12), .mv (.l 18), none⟩,
      ⟨(.l 19), .extract 0 (.l 12), none⟩,
      ⟨(.l 20), .extract 1 (.l 12), none⟩,
      ⟨(.p 3), .mv (.l 19), none⟩,
      ⟨(.p 4), .mv (.l 20), none⟩])
    (.seq (.seq (.region [⟨(.l 21), .mv (.p 3), none⟩,
        ⟨(.l 22), .bin .gtr (.l 21) (.c (.int .u64 (0))), none⟩,
        ⟨(.l 23), .mv (.l 22), none⟩,
        ⟨(.l 24), .mv (.p 4), some ((.l 23), false)⟩,
        ⟨(.l 25), .bin .gtr (.l 24) (.c (.int .u64 (9223372036854775807))), some ((.l 23), false)⟩,
        ⟨(.l 26), .pick (.l 23) (.c (.bool true)) (.l 25), none⟩])
      (.cond (.l 26)
       (.bad)
       (.skip)))
     (.seq (.region [⟨(.l 28), .mv (.p 4), none⟩,
        ⟨(.l 29), .convInt .i64 (.l 28), none⟩,
        ⟨(.l 30), .mkslice 9 1 16 [.str []] (.l 29) (.l 29), none⟩,
        ⟨(.p 5), .mv (.l 30), none⟩])
      (.seq (.region [⟨(.l 31), .mv (.p 5), none⟩,
         ⟨(.l 32), .mv (.p 0), none⟩,
         ⟨(.l 33), .copy 1 (.l 31) (.l 32), none⟩,
         ⟨(.p 6), .mv (.l 33), none⟩])
       (.seq (.block 0
         (.loop b150_0))
        (.seq (.region [⟨(.l 47), .mv (.p 5), none⟩,
           ⟨(.p 2), .mv (.l 47), none⟩])
         (.ret))))))))
theorem ft150 : FT 150 = some ⟨48, [0, 1, 4, 5, 6, 7, 8], [.var (.p 2)], b150⟩ := by kernel_rfl

/-- stadion/finish.letters -/
def b153 : ICode :=
 .seq (.region [⟨(.p 1), .mv (.c (.bool false)), none⟩])
  (.seq (.region [⟨(.l 3), .mv (.p 0), none⟩,
     ⟨(.l 4), .call (.c (.fn (.func 204) [] [])) [(.l 3), (.c (.fn (.func 205) [] []))], none⟩,
     ⟨(.l 5), .un .not (.l 4), none⟩,
     ⟨(.p 1), .mv (.l 5), none⟩])
   (.ret))
theorem ft153 : FT 153 = some ⟨6, [0, 2], [.var (.p 1)], b153⟩ := by kernel_rfl

/-- stadion/finish.reversed[string] -/
def b154 : ICode :=
 .seq (.region [⟨(.p 1), .mv (.c (.nilsl)), none⟩])
  (.seq (.region [⟨(.l 4), .mv (.p 0), none⟩,
     ⟨(.l 5), .call (.c (.fn (.func 206) [] [])) [(.l 4)], none⟩,
     ⟨(.p 2), .mv (.l 5), none⟩])
   (.seq (.region [⟨(.l 6), .mv (.p 2), none⟩,
      ⟨(.l 7), .call (.c (.fn (.func 207) [] [])) [(.l 6)], none⟩])
    (.seq (.region [⟨(.l 8), .mv (.p 2), none⟩,
       ⟨(.p 1), .mv (.l 8), none⟩])
     (.ret))))
theorem ft154 : FT 154 = some ⟨9, [0, 2, 3], [.var (.p 1)], b154⟩ := by kernel_rfl

/-- stadion/stadionref05.pixel -/
def b158 : ICode :=
 .seq (.region [⟨(.p 1), .mv (.c (.bool false)), none⟩])
  (.seq (.region [⟨(.l 3), .mv (.p 0), none⟩,
     ⟨(.l 4), .bin .eql (.l 3) (.c (.int .u8 (46))), none⟩,
     ⟨(.l 5), .mv (.l 4), none⟩,
     ⟨(.l 6), .mv (.p 0), some ((.l 5), false)⟩,
     ⟨(.l 7), .bin .geq (.l 6) (.c (.int .u8 (97))), some ((.l 5), false)⟩,
     ⟨(.l 8), .mv (.l 7), some ((.l 5), false)⟩,
     ⟨(.l 9), .mv (.p 0), some ((.l 8), true)⟩,
     ⟨(.l 10), .bin .leq (.l 9) (.c (.int .u8 (122))), some ((.l 8), true)⟩,
     ⟨(.l 11), .pick (.l 8) (.l 10) (.c (.bool false)), some ((.l 5), false)⟩,
     ⟨(.l 12), .pick (.l 5) (.c (.bool true)) (.l 11), none⟩,
     ⟨(.l 13), .mv (.l 12), none⟩,
     ⟨(.l 14), .mv (.p 0), some ((.l 13), false)⟩,
     ⟨(.l 15), .bin .geq (.l 14) (.c (.int .u8 (65))), some ((.l 13), false)⟩,
     ⟨(.l 16), .mv (.l 15), some ((.l 13), false)⟩,
     ⟨(.l 17), .mv (.p 0), some ((.l 16), true)⟩,
     ⟨(.l 18), .bin .leq (.l 17) (.c (.int .u8 (90))), some ((.l 16), true)⟩,
     ⟨(.l 19), .pick (.l 16) (.l 18) (.c (.bool false)), some ((.l 13), false)⟩,
     ⟨(.l 20), .pick (.l 13) (.c (.bool true)) (.l 19), none⟩,
     ⟨(.p 1), .mv (.l 20), none⟩])
   (.ret))
theorem ft158 : FT 158 = some ⟨21, [0, 2], [.var (.p 1)], b158⟩ := by kernel_rfl

/-- strings.Contains -/
def b162 : ICode :=
 .seq (.region [⟨(.p 2), .mv (.c (.bool false)), none⟩])
  (.seq (.region [⟨(.l 5), .mv (.p 0), none⟩,
     ⟨(.l 6), .mv (.p 1), none⟩,
     ⟨(.l 7), .call (.c (.fn (.func 213) [] [])) [(.l 5), (.l 6)], none⟩,
     ⟨(.l 8), .bin .geq (.l 7) (.c (.int .i64 (0))), none⟩,
     ⟨(.p 2), .mv (.l 8), none⟩])
   (.ret))
theorem ft162 : FT 162 = some ⟨9, [0, 1, 4], [.var (.p 2)], b162⟩ := by kernel_rfl

/-- math/bits.Mul -/
def b203 : ICode :=
 .seq (.region [⟨(.p 2), .mv (.c (.int .u64 (0))), none⟩,
    ⟨(.p 3), .mv (.c (.int .u64 (0))), none⟩])
  (.seq (.cond (.c (.bool false))
    (.seq (.region [⟨(.l 11), .mv (.p 0), none⟩,
       ⟨(.l 12), .convInt .u32 (.l 11), none⟩,
       ⟨(.l 13), .mv (.p 1), none⟩,
       ⟨(.l 14), .convInt .u32 (.l 13), none⟩,
       ⟨(.l 15), .call (.c (.fn (.func 264) [] [])) [(.l 12), (.l 14)], none⟩,
       ⟨(.l 10), .mv (.l 15), none⟩,
       ⟨(.l 16), .extract 0 (.l 10), none⟩,
       ⟨(.l 17), .extract 1 (.l 10), none⟩,
       ⟨(.p 4), .mv (.l 16), none⟩,
       ⟨(.p 5), .mv (.l 17), none⟩])
     (.seq (.region [⟨(.l 18), .mv (.p 4), none⟩,
        ⟨(.l 19), .convInt .u64 (.l 18), none⟩,
        ⟨(.l 20), .mv (.p 5), none⟩,
        ⟨(.l 21), .convInt .u64 (.l 20), none⟩,
        ⟨(.p 2), .mv (.l 19), none⟩,
        ⟨(.p 3), .mv (.l 21), none⟩])
      (.ret)))
    (.skip))
   (.seq (.region [⟨(.l 23), .mv (.p 0), none⟩,
      ⟨(.l 24), .mv (.p 1), none⟩,
      ⟨(.l 25), .call (.c (.fn (.func 259) [] [])) [(.l 23), (.l 24)], none⟩,
      ⟨(.l 22), .mv (.l 25), none⟩,
      ⟨(.l 26), .extract 0 (.l 22), none⟩,
      ⟨(.l 27), .extract 1 (.l 22), none⟩,
      ⟨(.p 6), .mv (.l 26), none⟩,
      ⟨(.p 7), .mv (.l 27), none⟩])
    (.seq (.region [⟨(.l 28), .mv (.p 6), none⟩,
       ⟨(.l 29), .mv (.p 7), none⟩,
       ⟨(.p 2), .mv (.l 28), none⟩,
       ⟨(.p 3), .mv (.l 29), none⟩])
     (.ret))))
theorem ft203 : FT 203 = some ⟨30, [0, 1, 4, 5, 6, 7, 8, 9], [.var (.p 2), .var (.p 3)], b203⟩ := by kernel_rfl

/-- strings.ContainsFunc -/
def b204 : ICode :=
 .seq (.region [⟨(.p 2), .mv (.c (.bool false)), none⟩])
  (.seq (.region [⟨(.l 5), .mv (.p 0), none⟩,
     ⟨(.l 6), .mv (.p 1), none⟩,
     ⟨(.l 7), .call (.c (.fn (.func 265) [] [])) [(.l 5), (.l 6)], none⟩,
     ⟨(.l 8), .bin .geq (.l 7) (.c (.int .i64 (0))), none⟩,
     ⟨(.p 2), .mv (.l 8), none⟩])
   (.ret))
theorem ft204 : FT 204 = some ⟨9, [0, 1, 4], [.var (.p 2)], b204⟩ := by kernel_rfl

/-- stadion/finish.letters$1 -/
def b205 : ICode :=
 .seq (.region [⟨(.p 1), .mv (.c (.bool false)), none⟩])
  (.seq (.region [⟨(.l 3), .mv (.p 0), none⟩,
     ⟨(.l 4), .bin .neq (.l 3) (.c (.int .i32 (46))), none⟩,
     ⟨(.l 5), .mv (.l 4), none⟩,
     ⟨(.l 6), .mv (.p 0), some ((.l 5), true)⟩,
     ⟨(.l 7), .bin .lss (.l 6) (.c (.int .i32 (65))), some ((.l 5), true)⟩,
     ⟨(.l 8), .mv (.l 7), some ((.l 5), true)⟩,
     ⟨(.l 9), .mv (.p 0), some ((.l 8), false)⟩,
     ⟨(.l 10), .bin .gtr (.l 9) (.c (.int .i32 (90))), some ((.l 8), false)⟩,
     ⟨(.l 11), .pick (.l 8) (.c (.bool true)) (.l 10), some ((.l 5), true)⟩,
     ⟨(.l 12), .pick (.l 5) (.l 11) (.c (.bool false)), none⟩,
     ⟨(.l 13), .mv (.l 12), none⟩,
     ⟨(.l 14), .mv (.p 0), some ((.l 13), true)⟩,
     ⟨(.l 15), .bin .lss (.l 14) (.c (.int .i32 (97))), some ((.l 13), true)⟩,
     ⟨(.l 16), .mv (.l 15), some ((.l 13), true)⟩,
     ⟨(.l 17), .mv (.p 0), some ((.l 16), false)⟩,
     ⟨(.l 18), .bin .gtr (.l 17) (.c (.int .i32 (122))), some ((.l 16), false)⟩,
     ⟨(.l 19), .pick (.l 16) (.c (.bool true)) (.l 18), some ((.l 13), true)⟩,
     ⟨(.l 20), .pick (.l 13) (.l 19) (.c (.bool false)), none⟩,
     ⟨(.p 1), .mv (.l 20), none⟩])
   (.ret))
theorem ft205 : FT 205 = some ⟨21, [0, 2], [.var (.p 1)], b205⟩ := by kernel_rfl

/-- slices.Clone[[]string,string] -/
def b206 : ICode :=
 .seq (.region [⟨(.p 1), .mv (.c (.nilsl)), none⟩])
  (.seq (.seq (.region [⟨(.l 3), .mv (.p 0), none⟩,
      ⟨(.l 4), .eq false (.ref .slice) (.l 3) (.c (.nilsl)), none⟩])
    (.cond (.l 4)
     (.seq (.region [⟨(.p 1), .mv (.c (.nilsl)), none⟩])
      (.ret))
     (.skip)))
   (.seq (.region [⟨(.l 5), .bslice 9 0 1 [.str []] [], none⟩,
      ⟨(.l 6), .mv (.p 0), none⟩,
      ⟨(.l 7), .append 9 1 16 (.l 5) (.l 6), none⟩,
      ⟨(.p 1), .mv (.l 7), none⟩])
    (.ret)))
theorem ft206 : FT 206 = some ⟨8, [0, 2], [.var (.p 1)], b206⟩ := by kernel_rfl

def b207_0 : ICode :=
 .seq (.seq (.region [⟨(.l 7), .mv (.p 1), none⟩,
     ⟨(.l 8), .mv (.p 2), none⟩,
     ⟨(.l 9), .bin .lss (.l 7) (.l 8), none⟩])
   (.cond (.l 9)
    (.skip)
    (.exit 0)))
  (.seq (.block 1
    (.draw [(⟨(.l 14), .mv (.p 0), none⟩, []),
      (⟨(.l 15), .mv (.p 1), none⟩, [0]),
      (⟨(.l 16), .mv (.p 0), none⟩, [0, 1]),
      (⟨(.l 17), .mv (.p 2), none⟩, [0, 1, 2]),
      (⟨(.l 18), .mv (.p 0), none⟩, [0, 1, 2, 3]),
      (⟨(.l 19), .mv (.p 2), none⟩, [0, 1, 2, 3, 4]),
      (⟨(.l 20), .iaddr none 1 (.l 18) (.l 19), none⟩, [0, 1, 2, 3]),
      (⟨(.l 21), .load 1 false (.l 20), none⟩, [0, 1, 2, 3]),
      (⟨(.l 22), .mv (.p 0), none⟩, [0, 1, 2, 3, 4, 5, 6, 7]),
      (⟨(.l 23), .mv (.p 1), none⟩, [0, 1, 2, 3, 4, 5, 6, 7, 8]),
      (⟨(.l 24), .iaddr none 1 (.l 22) (.l 23), none⟩, [0, 1, 2, 3, 4, 5, 6, 7]),
      (⟨(.l 25), .load 1 false (.l 24), none⟩, [0, 1, 2, 3, 4, 5, 6, 7]),
      (⟨(.l 26), .iaddr none 1 (.l 14) (.l 15), none⟩, [2, 3]),
      (⟨.no, .store 1 (.l 26) (.l 21), none⟩, [2, 3]),
      (⟨(.l 27), .iaddr none 1 (.l 16) (.l 17), none⟩, []),
      (⟨.no, .store 1 (.l 27) (.l 25), none⟩, [])]))
   (.region [⟨(.l 10), .mv (.p 1), none⟩,
     ⟨(.l 11), .bin .add (.l 10) (.c (.int .i64 (1))), none⟩,
     ⟨(.l 12), .mv (.p 2), none⟩,
     ⟨(.l 13), .bin .sub (.l 12) (.c (.int .i64 (1))), none⟩,
     ⟨(.p 1), .mv (.l 11), none⟩,
     ⟨(.p 2), .mv (.l 13), none⟩]))
/-- slices.Reverse[[]string,string] -/
def b207 : ICode :=
 .seq (.region [⟨(.l 4), .mv (.p 0), none⟩,
    ⟨(.l 5), .len .sl (.l 4), none⟩,
    ⟨(.l 6), .bin .sub (.l 5) (.c (.int .i64 (1))), none⟩,
    ⟨(.p 1), .mv (.c (.int .i64 (0))), none⟩,
    ⟨(.p 2), .mv (.l 6), none⟩])
  (.block 0
   (.loop b207_0))
theorem ft207 : FT 207 = some ⟨28, [0, 2, 3], [], b207⟩ := by kernel_rfl

/-- strings.Index -/
def b213 : ICode :=
 .seq (.region [⟨(.p 2), .mv (.c (.int .i64 (0))), none⟩])
  (.seq (.region [⟨(.l 5), .mv (.p 0), none⟩,
     ⟨(.l 6), .mv (.p 1), none⟩,
     ⟨(.l 7), .call (.c (.fn (.func 270) [] [])) [(.l 5), (.l 6)], none⟩,
     ⟨(.p 2), .mv (.l 7), none⟩])
   (.ret))
theorem ft213 : FT 213 = some ⟨8, [0, 1, 4], [.var (.p 2)], b213⟩ := by kernel_rfl

/-- math/bits.Mul64 -/
def b259 : ICode :=
 .seq (.region [⟨(.p 2), .mv (.c (.int .u64 (0))), none⟩,
    ⟨(.p 3), .mv (.c (.int .u64 (0))), none⟩])
  (.seq (.region [⟨(.l 14), .mv (.p 0), none⟩,
     ⟨(.l 15), .bin .and (.l 14) (.c (.int .u64 (4294967295))), none⟩,
     ⟨(.p 4), .mv (.l 15), none⟩])
   (.seq (.region [⟨(.l 16), .mv (.p 0), none⟩,
      ⟨(.l 17), .bin .shr (.l 16) (.c (.int .u64 (32))), none⟩,
      ⟨(.p 5), .mv (.l 17), none⟩])
    (.seq (.region [⟨(.l 18), .mv (.p 1), none⟩,
       ⟨(.l 19), .bin .and (.l 18) (.c (.int .u64 (4294967295))), none⟩,
       ⟨(.p 6), .mv (.l 19), none⟩])
     (.seq (.region [⟨(.l 20), .mv (.p 1), none⟩,
        ⟨(.l 21), .bin .shr (.l 20) (.c (.int .u64 (32))), none⟩,
        ⟨(.p 7), .mv (.l 21), none⟩])
      (.seq (.region [⟨(.l 22), .mv (.p 4), none⟩,
         ⟨(.l 23), .mv (.p 6), none⟩,
         ⟨(.l 24), .bin .mul (.l 22) (.l 23), none⟩,
         ⟨(.p 8), .mv (.l 24), none⟩])
       (.seq (.region [⟨(.l 25), .mv (.p 5), none⟩,
          ⟨(.l 26), .mv (.p 6), none⟩,
          ⟨(.l 27), .bin .mul (.l 25) (.l 26), none⟩,
          ⟨(.l 28), .mv (.p 8), none⟩,
          ⟨(.l 29), .bin .shr (.l 28) (.c (.int .u64 (32))), none⟩,
          ⟨(.l 30), .bin .add (.l 27) (.l 29), none⟩,
          ⟨(.p 9), .mv (.l 30), none⟩])
        (.seq (.region [⟨(.l 31), .mv (.p 9), none⟩,
           ⟨(.l 32), .bin .and (.l 31) (.c (.int .u64 (4294967295))), none⟩,
           ⟨(.p 10), .mv (.l 32), none⟩])
         (.seq (.region [⟨(.l 33), .mv (.p 9), none⟩,
            ⟨(.l 34), .bin .shr (.l 33) (.c (.int .u64 (32))), none⟩,
            ⟨(.p 11), .mv (.l 34), none⟩])
          (.seq (.region [⟨(.l 35), .mv (.p 10), none⟩,
             ⟨(.l 36), .mv (.p 4), none⟩,
             ⟨(.l 37), .mv (.p 7), none⟩,
             ⟨(.l 38), .bin .mul (.l 36) (.l 37), none⟩,
             ⟨(.l 39), .bin .add (.l 35) (.l 38), none⟩,
             ⟨(.p 10), .mv (.l 39), none⟩])
           (.seq (.region [⟨(.l 40), .mv (.p 5), none⟩,
              ⟨(.l 41), .mv (.p 7), none⟩,
              ⟨(.l 42), .bin .mul (.l 40) (.l 41), none⟩,
              ⟨(.l 43), .mv (.p 11), none⟩,
              ⟨(.l 44), .bin .add (.l 42) (.l 43), none⟩,
              ⟨(.l 45), .mv (.p 10), none⟩,
              ⟨(.l 46), .bin .shr (.l 45) (.c (.int .u64 (32))), none⟩,
              ⟨(.l 47), .bin .add (.l 44) (.l 46), none⟩,
              ⟨(.p 2), .mv (.l 47), none⟩])
            (.seq (.region [⟨(.l 48), .mv (.p 0), none⟩,
               ⟨(.l 49), .mv (.p 1), none⟩,
               ⟨(.l 50), .bin .mul (.l 48) (.l 49), none⟩,
               ⟨(.p 3), .mv (.l 50), none⟩])
             (.ret))))))))))))
theorem ft259 : FT 259 = some ⟨51, [0, 1, 4, 5, 6, 7, 8, 9, 10, 11, 12, 13], [.var (.p 2), .var (.p 3)], b259⟩ := by kernel_rfl

/-- strings.IndexFunc -/
def b265 : ICode :=
 .seq (.region [⟨(.p 2), .mv (.c (.int .i64 (0))), none⟩])
  (.seq (.region [⟨(.l 5), .mv (.p 0), none⟩,
     ⟨(.l 6), .mv (.p 1), none⟩,
     ⟨(.l 7), .call (.c (.fn (.func 311) [] [])) [(.l 5), (.l 6), (.c (.bool true))], none⟩,
     ⟨(.p 2), .mv (.l 7), none⟩])
   (.ret))
theorem ft265 : FT 265 = some ⟨8, [0, 1, 4], [.var (.p 2)], b265⟩ := by kernel_rfl

def b270_0 : ICode :=
 .seq (.seq (.region [⟨(.l 57), .mv (.p 6), none⟩,
     ⟨(.l 58), .mv (.p 7), none⟩,
     ⟨(.l 59), .bin .lss (.l 57) (.l 58), none⟩])
   (.cond (.l 59)
    (.skip)
    (.exit 1)))
  (.block 2
   (.seq (.seq (.region [⟨(.l 60), .mv (.p 0), none⟩,
       ⟨(.l 61), .mv (.p 6), none⟩,
       ⟨(.l 62), .index (.l 60) (.l 61), none⟩,
       ⟨(.l 63), .mv (.p 4), none⟩,
       ⟨(.l 64), .bin .neq (.l 62) (.l 63), none⟩])
     (.cond (.l 64)
      (.seq (.region [⟨(.l 65), .mv (.p 0), none⟩,
         ⟨(.l 66), .mv (.p 6), none⟩,
         ⟨(.l 67), .bin .add (.l 66) (.c (.int .i64 (1))), none⟩,
         ⟨(.l 68), .mv (.p 7), none⟩,
         ⟨(.l 69), .slice .str 1 (.l 65) (some (.l 67)) (some (.l 68)) none, none⟩,
         ⟨(.l 70), .mv (.p 4), none⟩,
         ⟨(.l 71), .call (.c (.fn (.func 316) [] [])) [(.l 69), (.l 70)], none⟩,
         ⟨(.p 9), .mv (.l 71), none⟩])
       (.seq (.seq (.region [⟨(.l 72), .mv (.p 9), none⟩,
           ⟨(.l 73), .bin .lss (.l 72) (.c (.int .i64 (0))), none⟩])
         (.cond (.l 73)
          (.seq (.region [⟨(.p 2), .mv (.c (.int .i64 (-1))), none⟩])
           (.ret))
          (.skip)))
        (.region [⟨(.l 74), .mv (.p 6), none⟩,
          ⟨(.l 75), .mv (.p 9), none⟩,
          ⟨(.l 76), .bin .add (.l 75) (.c (.int .i64 (1))), none⟩,
          ⟨(.l 77), .bin .add (.l 74) (.l 76), none⟩,
          ⟨(.p 6), .mv (.l 77), none⟩])))
      (.skip)))
    (.seq (.seq (.region [⟨(.l 78), .mv (.p 0), none⟩,
        ⟨(.l 79), .mv (.p 6), none⟩,
        ⟨(.l 80), .bin .add (.l 79) (.c (.int .i64 (1))), none⟩,
        ⟨(.l 81), .index (.l 78) (.l 80), none⟩,
        ⟨(.l 82), .mv (.p 5), none⟩,
        ⟨(.l 83), .bin .eql (.l 81) (.l 82), none⟩,
        ⟨(.l 84), .mv (.l 83), none⟩,
        ⟨(.l 85), .mv (.p 0), some ((.l 84), true)⟩,
        ⟨(.l 86), .mv (.p 6), some ((.l 84), true)⟩,
        ⟨(.l 87), .mv (.p 6), some ((.l 84), true)⟩,
        ⟨(.l 88), .mv (.p 3), some ((.l 84), true)⟩,
        ⟨(.l 89), .bin .add (.l 87) (.l 88), some ((.l 84), true)⟩,
        ⟨(.l 90), .slice .str 1 (.l 85) (some (.l 86)) (some (.l 89)) none, some ((.l 84), true)⟩,
        ⟨(.l 91), .mv (.p 1), some ((.l 84), true)⟩,
        ⟨(.l 92), .bin .eql (.l 90) (.l 91), some ((.l 84), true)⟩,
        ⟨(.l 93), .pick (.l 84) (.l 92) (.c (.bool false)), none⟩])
      (.cond (.l 93)
       (.seq (.region [⟨(.l 94), .mv (.p 6), none⟩,
          ⟨(.p 2), .mv (.l 94), none⟩])
        (.ret))
       (.skip)))
     (.seq (.region [⟨(.l 95), .mv (.p 6), none⟩,
        ⟨(.l 96), .bin .add (.l 95) (.c (.int .i64 (1))), none⟩,
        ⟨(.p 6), .mv (.l 96), none⟩])
      (.seq (.region [⟨(.l 97), .mv (.p 8), none⟩,
         ⟨(.l 98), .bin .add (.l 97) (.c (.int .i64 (1))), none⟩,
         ⟨(.p 8), .mv (.l 98), none⟩])
       (.seq (.bad)
        (.cond (.l 107)
         (.seq (.region [⟨(.l 108), .mv (.p 0), none⟩,
            ⟨(.l 109), .mv (.p 6), none⟩,
            ⟨(.l 110), .slice .str 1 (.l 108) (some (.l 109)) none none, none⟩,
            ⟨(.l 111), .mv (.p 1), none⟩,
            ⟨(.l 112), .call (.c (.fn (.func 317) [] [])) [(.l 110), (.l 111)], none⟩,
            ⟨(.p 10), .mv (.l 112), none⟩])
          (.seq (.seq (.region [⟨(.l 113), .mv (.p 10), none⟩,
              ⟨(.l 114), .bin .geq (.l 113) (.c (.int .i64 (0))), none⟩])
            (.cond (.l 114)
             (.seq (.region [⟨(.l 115), .mv (.p 10), none⟩,
                ⟨(.l 116), .mv (.p 6), none⟩,
                ⟨(.l 117), .bin .add (.l 115) (.l 116), none⟩,
                ⟨(.p 2), .mv (.l 117), none⟩])
              (.ret))
             (.skip)))
           (.seq (.region [⟨(.p 2), .mv (.c (.int .i64 (-1))), none⟩])
            (.ret))))
         (.seq (.bad)
          (.cond (.l 132)
           (.seq (.region [⟨(.l 133), .mv (.p 0), none⟩,
              ⟨(.l 134), .mv (.p 6), none⟩,
              ⟨(.l 135), .slice .str 1 (.l 133) (some (.l 134)) none none, none⟩,
              ⟨(.l 136), .mv (.p 1), none⟩,
              ⟨(.l 137), .call (.c (.fn (.func 319) [] [])) [(.l 135), (.l 136)], none⟩,
              ⟨(.p 11), .mv (.l 137), none⟩])
            (.seq (.seq (.region [⟨(.l 138), .mv (.p 11), none⟩,
                ⟨(.l 139), .bin .lss (.l 138) (.c (.int .i64 (0))), none⟩])
              (.cond (.l 139)
               (.seq (.region [⟨(.p 2), .mv (.c (.int .i64 (-1))), none⟩])
                (.ret))
               (.skip)))
             (.seq (.region [⟨(.l 140), .mv (.p 6), none⟩,
                ⟨(.l 141), .mv (.p 11), none⟩,
                ⟨(.l 142), .bin .add (.l 140) (.l 141), none⟩,
                ⟨(.p 2), .mv (.l 142), none⟩])
              (.ret))))
           (.skip))))))))))
/-- internal/stringslite.Index -/
def b270 : ICode :=
 .seq (.region [⟨(.p 2), .mv (.c (.int .i64 (0))), none⟩])
  (.seq (.region [⟨(.l 14), .mv (.p 1), none⟩,
     ⟨(.l 15), .len .str (.l 14), none⟩,
     ⟨(.p 3), .mv (.l 15), none⟩])
   (.seq (.block 0
     (.seq (.region [⟨(.l 17), .mv (.p 3), none⟩,
        ⟨(.l 18), .bin .eql (.l 17) (.c (.int .i64 (0))), none⟩,
        ⟨(.l 19), .mv (.l 18), none⟩,
        ⟨(.l 20), .mv (.p 1), some ((.l 19), false)⟩,
        ⟨(.l 21), .mv (.p 0), some ((.l 19), false)⟩,
        ⟨(.l 22), .bin .eql (.l 20) (.l 21), some ((.l 19), false)⟩,
        ⟨(.l 23), .pick (.l 19) (.c (.bool true)) (.l 22), none⟩,
        ⟨(.l 16), .mv (.l 23), none⟩])
      (.cond (.l 16)
       (.seq (.region [⟨(.p 2), .mv (.c (.int .i64 (0))), none⟩])
        (.ret))
       (.seq (.region [⟨(.l 25), .mv (.p 3), none⟩,
          ⟨(.l 26), .bin .eql (.l 25) (.c (.int .i64 (1))), none⟩,
          ⟨(.l 24), .mv (.l 26), none⟩])
        (.cond (.l 24)
         (.seq (.region [⟨(.l 27), .mv (.p 0), none⟩,
            ⟨(.l 28), .mv (.p 1), none⟩,
            ⟨(.l 29), .index (.l 28) (.c (.int .i64 (0))), none⟩,
            ⟨(.l 30), .call (.c (.fn (.func 316) [] [])) [(.l 27), (.l 29)], none⟩,
            ⟨(.p 2), .mv (.l 30), none⟩])
          (.ret))
         (.seq (.region [⟨(.l 32), .mv (.p 3), none⟩,
            ⟨(.l 33), .mv (.p 0), none⟩,
            ⟨(.l 34), .len .str (.l 33), none⟩,
            ⟨(.l 35), .bin .geq (.l 32) (.l 34), none⟩,
            ⟨(.l 31), .mv (.l 35), none⟩])
          (.cond (.l 31)
           (.seq (.region [⟨(.p 2), .mv (.c (.int .i64 (-1))), none⟩])
            (.ret))
           (.seq (.bad)
            (.cond (.l 36)
             (.seq (.region [⟨(.l 45), .mv (.p 0), none⟩,
                ⟨(.l 46), .mv (.p 1), none⟩,
                ⟨(.l 47), .call (.c (.fn (.func 317) [] [])) [(.l 45), (.l 46)], none⟩,
                ⟨(.p 2), .mv (.l 47), none⟩])
              (.ret))
             (.skip))))))))))
    (.seq (.region [⟨(.l 48), .mv (.p 1), none⟩,
       ⟨(.l 49), .index (.l 48) (.c (.int .i64 (0))), none⟩,
       ⟨(.p 4), .mv (.l 49), none⟩])
     (.seq (.region [⟨(.l 50), .mv (.p 1), none⟩,
        ⟨(.l 51), .index (.l 50) (.c (.int .i64 (1))), none⟩,
        ⟨(.p 5), .mv (.l 51), none⟩])
      (.seq (.region [⟨(.p 6), .mv (.c (.int .i64 (0))), none⟩])
       (.seq (.region [⟨(.l 52), .mv (.p 0), none⟩,
          ⟨(.l 53), .len .str (.l 52), none⟩,
          ⟨(.l 54), .mv (.p 3), none⟩,
          ⟨(.l 55), .bin .sub (.l 53) (.l 54), none⟩,
          ⟨(.l 56), .bin .add (.l 55) (.c (.int .i64 (1))), none⟩,
          ⟨(.p 7), .mv (.l 56), none⟩])
        (.seq (.region [⟨(.p 8), .mv (.c (.int .i64 (0))), none⟩])
         (.seq (.block 1
           (.loop b270_0))
          (.seq (.region [⟨(.p 2), .mv (.c (.int .i64 (-1))), none⟩])
           (.ret))))))))))
theorem ft270 : FT 270 = some ⟨143, [0, 1, 4, 5, 6, 7, 8, 9, 10, 11, 12, 13], [.var (.p 2)], b270⟩ := by kernel_rfl

def b311_0 : ICode :=
 .seq (.region [⟨(.p 7), .next (.p 6), none⟩,
    ⟨(.l 12), .extract 0 (.p 7), none⟩])
  (.seq (.cond (.l 12)
    (.skip)
    (.exit 0))
   (.block 1
    (.seq (.region [⟨(.l 13), .extract 1 (.p 7), none⟩,
       ⟨(.l 14), .extract 2 (.p 7), none⟩,
       ⟨(.p 4), .mv (.l 13), none⟩,
       ⟨(.p 5), .mv (.l 14), none⟩])
     (.seq (.region [⟨(.l 15), .mv (.p 1), none⟩,
        ⟨(.l 16), .mv (.p 5), none⟩,
        ⟨(.l 17), .call (.l 15) [(.l 16)], none⟩,
        ⟨(.l 18), .mv (.p 2), none⟩,
        ⟨(.l 19), .eq false .bool (.l 17) (.l 18), none⟩])
      (.cond (.l 19)
       (.seq (.region [⟨(.l 20), .mv (.p 4), none⟩,
          ⟨(.p 3), .mv (.l 20), none⟩])
        (.ret))
       (.skip))))))
/-- strings.indexFunc -/
def b311 : ICode :=
 .seq (.region [⟨(.p 3), .mv (.c (.int .i64 (0))), none⟩])
  (.seq (.seq (.region [⟨(.l 9), .mv (.p 0), none⟩,
      ⟨(.p 6), .range (.l 9), none⟩])
    (.block 0
     (.loop b311_0)))
   (.seq (.region [⟨(.p 3), .mv (.c (.int .i64 (-1))), none⟩])
    (.ret)))
theorem ft311 : FT 311 = some ⟨21, [0, 1, 2, 6, 7, 8, 10, 11], [.var (.p 3)], b311⟩ := by kernel_rfl

/-- internal/stringslite.IndexByte -/
def b316 : ICode :=
 .seq (.region [⟨(.p 2), .mv (.c (.int .i64 (0))), none⟩])
  (.seq (.region [⟨(.l 5), .mv (.p 0), none⟩,
     ⟨(.l 6), .mv (.p 1), none⟩,
     ⟨(.l 7), .call (.c (.fn (.func 336) [] [])) [(.l 5), (.l 6)], none⟩,
     ⟨(.p 2), .mv (.l 7), none⟩])
   (.ret))
theorem ft316 : FT 316 = some ⟨8, [0, 1, 4], [.var (.p 2)], b316⟩ := by kernel_rfl
end Go.Ab.Ch5


/-
  Own work: images: columns of bytes, their first error.
-/
namespace Go.Ab.Ch5
variable {M : Mach} {cap : Option Nat}

abbrev Str := List UInt8
abbrev cs (s : Str) : List AV := [.str s]

/-! A byte of an image. -/
def pixI (c : Int) : Bool := decide (c = 46) || (decide (97 ≤ c) && decide (c ≤ 122)) || (decide (65 ≤ c) && decide (c ≤ 90))
def pixB (b : UInt8) : Bool := pixI b.toNat
theorem w158 (hft : M.FT = FT) (c : Int) : Run M 158 [.int .u8 c] [] ⟨.bool (pixI c), [], []⟩ := by
  refine run_of_W (by rw [hft]; exact ft158) (by simp) ?_
  unfold b158
  simp only [List.map_cons, List.map_nil, List.getElem?_cons_zero, List.getElem?_cons_succ, List.getElem?_nil, Option.getD_some, Option.getD_none]
  repeat' first | apply W.seq | apply SQn | apply W.region | apply WO.nil | apply W.ret | (apply WO.gT; exact rfl) | (apply WO.gF; exact rfl) | (apply WO.sT; exact rfl) | (apply WO.sF; exact rfl) | (apply WO.sU; exact rfl) | (apply WO.leq; exact rfl; exact rfl; all_goals first | (intro _; exfalso; omega) | intro _) | (apply WO.geq; exact rfl; exact rfl; all_goals first | (intro _; exfalso; omega) | intro _) | (apply WO.eql; exact rfl; exact rfl; all_goals first | (intro _; exfalso; omega) | intro _) | (apply WO.pkT; exact rfl; exact rfl) | (apply WO.pkF; exact rfl; exact rfl) | (apply WO.pl; exact rfl; exact rfl) | (apply WO.pp; exact rfl; exact rfl)
  all_goals exact ⟨.inr rfl, rfl, _, rfl, congrArg AV.bool (by simp_all [pixI] <;> omega), rfl⟩

/-! A column. -/
def colE (rows : Int) (s : Str) : Int := if (s.length : Int) ≠ rows then 2 else if s.all pixB then 0 else 1
theorem all_drop {s : Str} {i : Nat} (h : i < s.length) : (s.drop i).all pixB = (pixB s[i]! && (s.drop (i + 1)).all pixB) := by
  rw [List.drop_eq_getElem_cons h, getElem!_pos s i h, List.all_cons]
theorem loop88 (c158 : ∀ c h, M.ext 158 [.int .u8 c] h = some ⟨.bool (pixI c), h, []⟩) (s : Str) (hl : s.length < 4611686018427387904) (a1 a2 : AV) {Q : Ex → StW → Prop} : ∀ (r i : Nat) (lo : List (Nat × AV)) (wr : List Nat), i + r = s.length →
    ((s.drop i).all pixB = true → ∀ lo wr, Q (.exit 0) ⟨⟨[.str s, a1, a2, .int .i64 s.length], lo, [], []⟩, wr⟩) →
    ((s.drop i).all pixB = false → ∀ a3 lo wr, Q .ret ⟨⟨[.str s, a1, .int .i64 1, a3], lo, [], []⟩, wr⟩) →
    W M (.loop b88_0) ⟨⟨[.str s, a1, a2, .int .i64 i], lo, [], []⟩, wr⟩ Q
  | 0, i, lo, wr, hi, h1, h2 => by
    obtain rfl : i = s.length := by omega
    refine W.loop ?_
    unfold b88_0
    repeat' first | apply W.seq | apply SQn | apply W.region | apply WO.nil | apply W.exit | apply SQe | apply LQe | (apply W.condF; exact rfl) | (apply WO.lss; exact rfl; exact rfl; all_goals first | (intro _; exfalso; omega) | intro _) | (apply WO.pl; exact rfl; exact rfl)
    exact h1 (by simp) _ _
  | r + 1, i, lo, wr, hi, h1, h2 => by
    have e := all_drop (s := s) (i := (i : Int).toNat) (by omega)
    rw [Int.toNat_natCast] at e
    have hc := c158 (s[((i : Int)).toNat]!).toNat
    refine W.loop ?_
    cases hp : pixB s[((i : Int)).toNat]!
    · rw [show pixI ((s[((i : Int)).toNat]!).toNat : Int) = false from hp] at hc
      rw [Int.toNat_natCast] at hp
      rw [hp] at e
      unfold b88_0
      repeat' first | apply W.seq | apply SQn | apply W.region | apply WO.nil | apply W.block | apply W.ret | apply W.skip | apply SQr | apply BQr | apply LQr | (apply W.condT; exact rfl) | (apply WO.lss; exact rfl; exact rfl; all_goals first | (intro _; exfalso; omega) | intro _) | (apply WO.cll; exact rfl; exact rfl; first | exact hc _) | (apply WO.idx; exact rfl; exact rfl; omega) | (apply WO.pl; exact rfl; exact rfl) | (apply WO.pp; exact rfl; exact rfl)
      exact h2 (by rw [e]; rfl) _ _ _
    · rw [show pixI ((s[((i : Int)).toNat]!).toNat : Int) = true from hp] at hc
      rw [Int.toNat_natCast] at hp
      rw [hp, Bool.true_and] at e
      unfold b88_0
      repeat' first | apply W.seq | apply SQn | apply W.region | apply WO.nil | apply W.block | apply W.skip | apply BQn | (apply W.condT; exact rfl) | (apply W.condF; exact rfl) | (apply WO.lss; exact rfl; exact rfl; all_goals first | (intro _; exfalso; omega) | intro _) | (apply WO.add; exact rfl; exact rfl; omega) | (apply WO.cll; exact rfl; exact rfl; first | exact hc _) | (apply WO.idx; exact rfl; exact rfl; omega) | (apply WO.pl; exact rfl; exact rfl) | (apply WO.pp; exact rfl; exact rfl)
      exact LQn (loop88 c158 s hl a1 a2 r (i + 1) _ _ (by omega) (fun h => h1 (by rw [e]; exact h)) (fun h => h2 (by rw [e]; exact h)))
theorem w88 (hft : M.FT = FT) (c158 : ∀ c h, M.ext 158 [.int .u8 c] h = some ⟨.bool (pixI c), h, []⟩) (s : Str) (rows : Int) (hl : s.length < 4611686018427387904) : Run M 88 [.str s, .int .i64 rows] [] ⟨.int .i64 (colE rows s), [], []⟩ := by
  refine run_of_W (by rw [hft]; exact ft88) (by simp) ?_
  unfold b88
  simp only [List.map_cons, List.map_nil, List.getElem?_cons_zero, List.getElem?_cons_succ, List.getElem?_nil, Option.getD_some, Option.getD_none]
  repeat' first | apply W.seq | apply SQn | apply W.region | apply WO.nil | apply W.block | apply W.ret | apply W.skip | apply SQr | (apply W.condT; exact rfl) | (apply W.condF; exact rfl) | (apply WO.neq; exact rfl; exact rfl; all_goals first | (intro _; exfalso; omega) | intro _) | (apply WO.pl; exact rfl; exact rfl) | (apply WO.pp; exact rfl; exact rfl)
  · rename_i h
    exact ⟨.inr rfl, rfl, _, rfl, by rw [colE, if_pos h]; rfl, rfl⟩
  · rename_i h
    refine loop88 c158 s hl _ _ s.length 0 _ _ (by omega) (fun h1 lo wr => ?_) (fun h1 a3 lo wr => ?_)
    · rw [List.drop_zero] at h1
      repeat' first | apply W.seq | apply SQn | apply W.region | apply WO.nil | apply W.ret | apply BQe | (apply WO.pp; exact rfl; exact rfl)
      exact ⟨.inr rfl, rfl, _, rfl, by rw [colE, if_neg (by omega), h1]; rfl, rfl⟩
    · rw [List.drop_zero] at h1
      repeat' first | apply SQr | apply BQr
      exact ⟨.inr rfl, rfl, _, rfl, by rw [colE, if_neg (by omega), h1]; rfl, rfl⟩

/-! letters: the first rune that is none of an image's. -/
theorem r205 (hft : M.FT = FT) (n : ∀ ars h, M.ext 205 ars h = none) (H : Heap) (c : Int) : CT M (fnV 205) [.int .i32 c] H ⟨.bool (!pixI c), H, []⟩ := by
  refine CT.run (n _ _) (run_same (by rw [hft]; exact ft205) (by simp) ?_)
  simp only [List.nil_append, List.append_nil]
  unfold b205
  simp only [List.map_cons, List.map_nil, List.getElem?_cons_zero, List.getElem?_cons_succ, List.getElem?_nil, Option.getD_some, Option.getD_none]
  repeat' first | apply W.seq | apply SQn | apply W.region | apply WO.nil | apply W.ret | (apply WO.gT; exact rfl) | (apply WO.gF; exact rfl) | (apply WO.sT; exact rfl) | (apply WO.sF; exact rfl) | (apply WO.sU; exact rfl) | (apply WO.lss; exact rfl; exact rfl; all_goals first | (intro _; exfalso; omega) | intro _) | (apply WO.gtr; exact rfl; exact rfl; all_goals first | (intro _; exfalso; omega) | intro _) | (apply WO.neq; exact rfl; exact rfl; all_goals first | (intro _; exfalso; omega) | intro _) | (apply WO.pkT; exact rfl; exact rfl) | (apply WO.pkF; exact rfl; exact rfl) | (apply WO.pl; exact rfl; exact rfl) | (apply WO.pp; exact rfl; exact rfl)
  all_goals exact ⟨.inr rfl, rfl, rfl, rfl, _, rfl, congrArg AV.bool (by simp_all [pixI] <;> omega)⟩
end Go.Ab.Ch5


/-
  Own work: images: letters, by the runes of a column.
-/
namespace Go.Ab.Ch5
variable {M : Mach} {cap : Option Nat}

theorem WO.nxT {i pos c w : Nat} {x : IOpd} {l : List IOper} {pe : List AV} {lo : List (Nat × AV)} {hp : Heap} {df wr : List Nat} {t : List UInt8} {Q : StW → Prop} (hx : (St.mk pe lo (hp ++ [some (.iter t pos)]) df).opd x = some (.ptr hp.length 0)) (hp0 : pos < t.length)
    (hd : Utf8.decode ⟨t.toArray⟩ pos = (c, w)) (h : WO M l ⟨⟨pe.set i (.tup [.bool true, .int .i64 pos, .int .i32 c]), lo, hp ++ [some (.iter t (pos + w))], df⟩, hp.length :: wr⟩ Q) : WO M (⟨.p i, .next x, none⟩ :: l) ⟨⟨pe, lo, hp ++ [some (.iter t pos)], df⟩, wr⟩ Q := by
  refine WO.hpv (v := .tup [.bool true, .int .i64 pos, .int .i32 c]) (h' := hp ++ [some (.iter t (pos + w))]) (w' := [hp.length]) ?_ rfl rfl h
  simp only [heapA, hx, at_new, if_pos hp0, hd, put_end rfl]
theorem WO.nxF {i pos : Nat} {x : IOpd} {l : List IOper} {pe : List AV} {lo : List (Nat × AV)} {hp : Heap} {df wr : List Nat} {t : List UInt8} {Q : StW → Prop} (hx : (St.mk pe lo (hp ++ [some (.iter t pos)]) df).opd x = some (.ptr hp.length 0)) (hp0 : ¬ pos < t.length)
    (h : WO M l ⟨⟨pe.set i (.tup [.bool false]), lo, hp ++ [some (.iter t pos)], df⟩, wr⟩ Q) : WO M (⟨.p i, .next x, none⟩ :: l) ⟨⟨pe, lo, hp ++ [some (.iter t pos)], df⟩, wr⟩ Q := by
  refine WO.hpv (v := .tup [.bool false]) (h' := hp ++ [some (.iter t pos)]) (w' := []) ?_ rfl rfl h
  simp only [heapA, hx, at_new, if_neg hp0]

theorem dec_ascii {s : Str} {i : Nat} (h : i < s.length) (hb : (s[i]!).toNat < 128) : Utf8.decode ⟨s.toArray⟩ i = ((s[i]!).toNat, 1) := by
  have hs : i < (ByteArray.mk s.toArray).size := by simpa [ByteArray.size] using h
  have e : ((ByteArray.mk s.toArray)[i]'hs) = s[i]! := by
    rw [getElem!_pos s i h]; rfl
  have := decode_ascii (ByteArray.mk s.toArray) i hs (by rw [e]; exact hb)
  rw [this, e]
theorem dec_other {s : Str} {i : Nat} (h : i < s.length) (hb : ¬ (s[i]!).toNat < 128) : ∃ c w, Utf8.decode ⟨s.toArray⟩ i = (c, w) ∧ 128 ≤ c := by
  have e : ((ByteArray.mk s.toArray).get! (i + 0)) = s[i]! := by
    rw [Nat.add_zero, getElem!_pos s i h]
    simp [ByteArray.get!, h]
  refine ⟨(Utf8.decode ⟨s.toArray⟩ i).1, (Utf8.decode ⟨s.toArray⟩ i).2, rfl, ?_⟩
  unfold Utf8.decode
  simp only [e]
  rw [if_neg hb]
  have hr : (128 : Nat) ≤ Utf8.runeError := by decide
  split
  · split
    · omega
    · exact hr
  · split
    · split
      · rename_i h1; simp only [ge_iff_le, Bool.and_eq_true, decide_eq_true_eq] at h1; omega
      · exact hr
    · split
      · split
        · rename_i h1; simp only [ge_iff_le, Bool.and_eq_true, decide_eq_true_eq] at h1; omega
        · exact hr
      · exact hr

/-- The first byte that is none of an image's, or -1. -/
def badAt : Str → Nat → Int
  | [], _ => -1
  | b :: r, i => if pixB b then badAt r (i + 1) else i
theorem badAt_drop {s : Str} {i : Nat} (h : i < s.length) : badAt (s.drop i) i = if pixB s[i]! then badAt (s.drop (i + 1)) (i + 1) else (i : Int) := by
  rw [List.drop_eq_getElem_cons h, getElem!_pos s i h, badAt]
theorem badAt_all : ∀ (s : Str) (i : Nat), decide (0 ≤ badAt s i) = !s.all pixB
  | [], i => by simp [badAt]
  | b :: s, i => by
    rw [badAt, List.all_cons]
    cases pixB b
    · simp
    · simpa using badAt_all s (i + 1)
theorem badAt_lt : ∀ (s : Str) (i : Nat), badAt s i = -1 ∨ (0 ≤ badAt s i ∧ badAt s i < i + s.length)
  | [], i => .inl rfl
  | b :: s, i => by
    rw [badAt]
    split
    · rcases badAt_lt s (i + 1) with h | h
      · exact .inl h
      · right; simp only [List.length_cons]; omega
    · right; simp only [List.length_cons]; omega
theorem pixI_ge {c : Int} (h : 128 ≤ c) : pixI c = false := by
  simp [pixI]; omega

theorem loop311 (s : Str) (f : AV) (H : Heap) (hl : s.length < 4611686018427387904) (hf : ∀ c hp, CT M f [.int .i32 c] hp ⟨.bool (!pixI c), hp, []⟩) {Q : Ex → StW → Prop} : ∀ (r i : Nat) (a4 a5 a7 : AV) (lo : List (Nat × AV)) (wr : List Nat), i + r = s.length → (∀ x ∈ wr, H.length ≤ x) →
    (badAt (s.drop i) i = -1 → ∀ a4 a5 a7 lo J wr, (∀ x ∈ wr, H.length ≤ x) → Q (.exit 0) ⟨⟨[.str s, f, .bool true, .int .i64 0, a4, a5, .ptr H.length 0, a7], lo, H ++ J, []⟩, wr⟩) →
    (∀ a4 a5 a7 lo J wr, (∀ x ∈ wr, H.length ≤ x) → Q .ret ⟨⟨[.str s, f, .bool true, .int .i64 (badAt (s.drop i) i), a4, a5, .ptr H.length 0, a7], lo, H ++ J, []⟩, wr⟩) →
    W M (.loop b311_0) ⟨⟨[.str s, f, .bool true, .int .i64 0, a4, a5, .ptr H.length 0, a7], lo, H ++ [some (.iter s i)], []⟩, wr⟩ Q
  | 0, i, a4, a5, a7, lo, wr, hi, hw, h1, h2 => by
    obtain rfl : i = s.length := by omega
    refine W.loop ?_
    unfold b311_0
    repeat' first | (apply WO.nxF; exact rfl; omega) | apply W.seq | apply SQn | apply W.region | apply WO.nil | apply W.exit | apply SQe | apply LQe | (apply W.condF; exact rfl) | (apply WO.pl; exact rfl; exact rfl)
    exact h1 (by simp [badAt]) _ _ _ _ _ _ hw
  | r + 1, i, a4, a5, a7, lo, wr, hi, hw, h1, h2 => by
    have e := badAt_drop (s := s) (i := i) (by omega)
    have hw' : ∀ x ∈ H.length :: wr, H.length ≤ x := fun x hx => by
      rcases List.mem_cons.1 hx with rfl | hx
      · exact Nat.le_refl _
      · exact hw x hx
    refine W.loop ?_
    by_cases hb : (s[i]!).toNat < 128
    · have hd := dec_ascii (s := s) (i := i) (by omega) hb
      have hc := hf (s[i]!).toNat
      cases hp : pixB s[i]!
      · rw [show pixI ((s[i]!).toNat : Int) = false from hp] at hc
        rw [hp] at e
        have hc' := hc (H ++ [some (.iter s (i + 1))])
        rw [e] at h2
        unfold b311_0
        repeat' first | (apply WO.nxT; exact rfl; omega; exact hd) | apply W.seq | apply SQn | apply W.region | apply WO.nil | apply W.block | apply W.ret | apply W.skip | apply BQr | apply LQr | (apply W.condT; exact rfl) | (apply WO.ct; exact rfl; exact rfl; first | exact hc') | (apply WO.pl; exact rfl; exact rfl) | (apply WO.pp; exact rfl; exact rfl)
        exact h2 _ _ _ _ _ _ hw'
      · rw [show pixI ((s[i]!).toNat : Int) = true from hp] at hc
        rw [hp] at e
        have hc' := hc (H ++ [some (.iter s (i + 1))])
        rw [if_pos rfl] at e
        rw [e] at h1 h2
        unfold b311_0
        repeat' first | (apply WO.nxT; exact rfl; omega; exact hd) | apply W.seq | apply SQn | apply W.region | apply WO.nil | apply W.block | apply W.skip | apply BQn | (apply W.condT; exact rfl) | (apply W.condF; exact rfl) | (apply WO.ct; exact rfl; exact rfl; first | exact hc') | (apply WO.pl; exact rfl; exact rfl) | (apply WO.pp; exact rfl; exact rfl)
        exact LQn (loop311 s f H hl hf r (i + 1) _ _ _ _ _ (by omega) hw' h1 h2)
    · obtain ⟨c, w, hd, hc128⟩ := dec_other (s := s) (i := i) (by omega) hb
      have hc := hf c
      rw [pixI_ge (show (128 : Int) ≤ (c : Int) by omega)] at hc
      have hc' := hc (H ++ [some (.iter s (i + w))])
      have hp : pixB s[i]! = false := pixI_ge (by omega)
      rw [hp] at e
      rw [e] at h2
      unfold b311_0
      repeat' first | (apply WO.nxT; exact rfl; omega; exact hd) | apply W.seq | apply SQn | apply W.region | apply WO.nil | apply W.block | apply W.ret | apply W.skip | apply BQr | apply LQr | (apply W.condT; exact rfl) | (apply WO.ct; exact rfl; exact rfl; first | exact hc') | (apply WO.pl; exact rfl; exact rfl) | (apply WO.pp; exact rfl; exact rfl)
      exact h2 _ _ _ _ _ _ hw'
theorem r311 (hft : M.FT = FT) (n : ∀ ars h, M.ext 311 ars h = none) (s : Str) (f : AV) (H : Heap) (hl : s.length < 4611686018427387904) (hf : ∀ c hp, CT M f [.int .i32 c] hp ⟨.bool (!pixI c), hp, []⟩) :
    CT M (fnV 311) [.str s, f, .bool true] H ⟨.int .i64 (badAt s 0), H, []⟩ := by
  refine CT.run (n _ _) (run_drop (by rw [hft]; exact ft311) (by simp) rfl ?_)
  simp only [List.nil_append, List.append_nil]
  unfold b311
  simp only [List.map_cons, List.map_nil, List.getElem?_cons_zero, List.getElem?_cons_succ, List.getElem?_nil, Option.getD_some, Option.getD_none]
  repeat' first | apply W.seq | apply SQn | apply W.region | apply WO.nil | apply W.block | (apply WO.hpv; exact rfl; exact rfl; exact rfl) | (apply WO.pl; exact rfl; exact rfl) | (apply WO.pp; exact rfl; exact rfl)
  refine loop311 s f H hl hf s.length 0 _ _ _ _ _ (by omega) (by simp) (fun h a4 a5 a7 lo J wr hw => ?_) (fun a4 a5 a7 lo J wr hw => ?_)
  · repeat' first | apply W.seq | apply SQn | apply W.region | apply WO.nil | apply W.ret | apply BQe | (apply WO.pp; exact rfl; exact rfl)
    exact ⟨.inr rfl, rfl, ⟨_, rfl⟩, hw, _, rfl, by rw [List.drop_zero] at h; rw [h]; rfl⟩
  · repeat' first | apply SQr | apply BQr
    exact ⟨.inr rfl, rfl, ⟨_, rfl⟩, hw, _, rfl, rfl⟩
structure C153 (M : Mach) : Prop where
  ft : M.FT = FT
  n204 : ∀ ars h, M.ext 204 ars h = none
  n205 : ∀ ars h, M.ext 205 ars h = none
  n265 : ∀ ars h, M.ext 265 ars h = none
  n311 : ∀ ars h, M.ext 311 ars h = none
theorem r265 (C : C153 M) (s : Str) (H : Heap) (hl : s.length < 4611686018427387904) : CT M (fnV 265) [.str s, fnV 205] H ⟨.int .i64 (badAt s 0), H, []⟩ := by
  have hc := r311 C.ft C.n311 s (fnV 205) H hl (fun c hp => r205 C.ft C.n205 hp c)
  refine CT.run (C.n265 _ _) (run_same (by rw [C.ft]; exact ft265) (by simp) ?_)
  simp only [List.nil_append, List.append_nil]
  unfold b265
  simp only [List.map_cons, List.map_nil, List.getElem?_cons_zero, List.getElem?_cons_succ, List.getElem?_nil, Option.getD_some, Option.getD_none]
  repeat' first | apply W.seq | apply SQn | apply W.region | apply WO.nil | apply W.ret | (apply WO.ct; exact rfl; exact rfl; first | exact hc) | (apply WO.pl; exact rfl; exact rfl) | (apply WO.pp; exact rfl; exact rfl)
  exact ⟨.inr rfl, rfl, rfl, rfl, _, rfl, rfl⟩
theorem r204 (C : C153 M) (s : Str) (H : Heap) (hl : s.length < 4611686018427387904) : CT M (fnV 204) [.str s, fnV 205] H ⟨.bool (!s.all pixB), H, []⟩ := by
  have hc := r265 C s H hl
  have hb := badAt_lt s 0
  rw [← badAt_all s 0]
  refine CT.run (C.n204 _ _) (run_same (by rw [C.ft]; exact ft204) (by simp) ?_)
  simp only [List.nil_append, List.append_nil]
  unfold b204
  simp only [List.map_cons, List.map_nil, List.getElem?_cons_zero, List.getElem?_cons_succ, List.getElem?_nil, Option.getD_some, Option.getD_none]
  repeat' first | apply W.seq | apply SQn | apply W.region | apply WO.nil | apply W.ret | (apply WO.geq; exact rfl; exact rfl; all_goals first | (intro _; exfalso; omega) | intro _) | (apply WO.ct; exact rfl; exact rfl; first | exact hc) | (apply WO.pl; exact rfl; exact rfl) | (apply WO.pp; exact rfl; exact rfl)
  all_goals (rename_i h; exact ⟨.inr rfl, rfl, rfl, rfl, _, rfl, congrArg AV.bool (by simp [h])⟩)
theorem w153 (C : C153 M) (s : Str) (hl : s.length < 4611686018427387904) : Run M 153 [.str s] [] ⟨.bool (s.all pixB), [], []⟩ := by
  have hc := r204 C s [] hl
  refine run_of_W (by rw [C.ft]; exact ft153) (by simp) ?_
  unfold b153
  simp only [List.map_cons, List.map_nil, List.getElem?_cons_zero, List.getElem?_cons_succ, List.getElem?_nil, Option.getD_some, Option.getD_none]
  cases hs : s.all pixB
  all_goals
    rw [hs] at hc
    repeat' first | apply W.seq | apply SQn | apply W.region | apply WO.nil | apply W.ret | (apply WO.ct; exact rfl; exact rfl; first | exact hc) | (apply WO.pl; exact rfl; exact rfl) | (apply WO.pp; exact rfl; exact rfl)
    exact ⟨.inr rfl, rfl, _, rfl, rfl, rfl⟩
end Go.Ab.Ch5


/-
  Own work: images: the first error of an image, both ways.
-/
namespace Go.Ab.Ch5
variable {M : Mach} {cap : Option Nat}

def headE (rows : Int) (n : Nat) : Int := if outI rows 1 64 then 3 else if n = 0 then 12 else if 4096 < n then 5 else 0
def colsE (rows : Int) : List Str → Int
  | [] => 0
  | s :: l => if colE rows s ≠ 0 then colE rows s else colsE rows l
def imgE (rows : Int) (l : List Str) : Int := if headE rows l.length ≠ 0 then headE rows l.length else colsE rows l
theorem colsE_drop {rows : Int} {l : List Str} {i : Nat} (h : i < l.length) : colsE rows (l.drop i) = if colE rows l[i]! ≠ 0 then colE rows l[i]! else colsE rows (l.drop (i + 1)) := by
  rw [List.drop_eq_getElem_cons h, getElem!_pos l i h, colsE]
theorem short_get {l : List Str} (hL : ∀ s ∈ l, s.length < 4611686018427387904) {i : Nat} (h : i < l.length) : (l[i]!).length < 4611686018427387904 := by
  rw [getElem!_pos l i h]; exact hL _ (List.getElem_mem h)

/-! The reference. -/
structure C18 (M : Mach) : Prop where
  ft : M.FT = FT
  c87 : ∀ x lo hi h, M.ext 87 [.int .i64 x, .int .i64 lo, .int .i64 hi] h = some ⟨.bool (outI x lo hi), h, []⟩
  c88 : ∀ s rows h, s.length < 4611686018427387904 → M.ext 88 [.str s, .int .i64 rows] h = some ⟨.int .i64 (colE rows s), h, []⟩
theorem loop18 (C : C18 M) (rows : Int) (l : List Str) (hL : ∀ s ∈ l, s.length < 4611686018427387904) (hl : l.length < 1000000) (a0 : AV) {Q : Ex → StW → Prop} : ∀ (r i : Nat) (a4 : AV) (lo : List (Nat × AV)) (wr : List Nat), i + r = l.length →
    (colsE rows (l.drop i) = 0 → ∀ a4 lo wr, Q (.exit 0) ⟨⟨[a0, .ptr 0 0, .int .i64 0, .int .i64 l.length, a4], lo, [some (.cells [.int .i64 rows, .vs (strs l) l.length cap] 25)], []⟩, wr⟩) →
    (∀ a3 a4 lo wr, Q .ret ⟨⟨[a0, .ptr 0 0, .int .i64 (colsE rows (l.drop i)), a3, a4], lo, [some (.cells [.int .i64 rows, .vs (strs l) l.length cap] 25)], []⟩, wr⟩) →
    W M (.loop b18_0) ⟨⟨[a0, .ptr 0 0, .int .i64 0, .int .i64 i, a4], lo, [some (.cells [.int .i64 rows, .vs (strs l) l.length cap] 25)], []⟩, wr⟩ Q
  | 0, i, a4, lo, wr, hi, h1, h2 => by
    obtain rfl : i = l.length := by omega
    refine W.loop ?_
    unfold b18_0
    repeat' first | apply W.seq | apply SQn | apply W.region | apply WO.nil | apply W.exit | apply SQe | apply LQe | (apply W.condF; exact rfl) | (apply WO.lss; exact rfl; exact rfl; all_goals first | (intro _; exfalso; omega) | intro _) | (apply WO.hlv; exact rfl; exact rfl; exact rfl) | (apply WO.pl; exact rfl; exact rfl)
    exact h1 (by simp [colsE]) _ _ _
  | r + 1, i, a4, lo, wr, hi, h1, h2 => by
    have e := colsE_drop (rows := rows) (l := l) (i := (i : Int).toNat) (by omega)
    rw [Int.toNat_natCast] at e
    have hc := fun h => C.c88 l[((i : Int)).toNat]! rows h (short_get hL (by omega))
    refine W.loop ?_
    unfold b18_0
    repeat' first | apply W.seq | apply SQn | apply W.region | apply WO.nil | apply W.block | apply W.ret | apply W.skip | apply SQr | apply BQn | apply BQr | apply LQr | apply W.draw | apply WD.nil | (apply WD.pure1; exact rfl) | (apply WD.load1; exact rfl; exact rfl; exact rfl) | (apply W.condT; exact rfl) | (apply W.condF; exact rfl) | (apply WO.lss; exact rfl; exact rfl; all_goals first | (intro _; exfalso; omega) | intro _) | (apply WO.neq; exact rfl; exact rfl; all_goals first | (intro _; exfalso; omega) | intro _) | (apply WO.add; exact rfl; exact rfl; omega) | (apply WD.cl0; exact rfl; exact rfl; exact rfl; first | exact hc _) | (apply WO.iav; exact rfl; exact rfl; omega) | (apply WO.lda; exact rfl; exact fun _ => rfl; (first | omega | (simp only [List.length_set]; omega) | (simp; omega)); decide; exact rfl; case ia => infer_instance) | (apply WO.hlv; exact rfl; exact rfl; exact rfl) | (apply WO.pl; exact rfl; exact rfl) | (apply WO.pp; exact rfl; exact rfl)
    · rename_i he
      rw [Int.toNat_natCast] at he ⊢
      rw [if_pos he] at e
      rw [e] at h2
      exact h2 _ _ _ _
    · rename_i he
      rw [Int.toNat_natCast] at he
      rw [if_neg (fun h => h he)] at e
      rw [e] at h1 h2
      exact LQn (loop18 C rows l hL hl a0 r (i + 1) _ _ _ (by omega) h1 h2)
theorem w18 (C : C18 M) (rows : Int) (l : List Str) (hL : ∀ s ∈ l, s.length < 4611686018427387904) (hl : l.length < 1000000) : Run M 18 [.agg [.int .i64 rows, .vs (strs l) l.length cap]] [] ⟨.int .i64 (imgE rows l), [], []⟩ := by
  refine run_of_W (by rw [C.ft]; exact ft18) (by simp) ?_
  have hc := C.c87 rows 1 64
  unfold b18
  simp only [List.map_cons, List.map_nil, List.getElem?_cons_zero, List.getElem?_cons_succ, List.getElem?_nil, Option.getD_some, Option.getD_none]
  cases ho : outI rows 1 64
  all_goals rw [ho] at hc
  · repeat' first | apply W.seq | apply SQn | apply W.region | apply WO.nil | apply W.block | apply W.ret | apply W.skip | apply SQr | (apply W.condT; exact rfl) | (apply W.condF; exact rfl) | (apply WO.gtr; exact rfl; exact rfl; all_goals first | (intro _; exfalso; omega) | intro _) | (apply WO.eql; exact rfl; exact rfl; all_goals first | (intro _; exfalso; omega) | intro _) | (apply WO.cll; exact rfl; exact rfl; first | exact hc _) | (apply WO.hlv; exact rfl; exact rfl; exact rfl) | (apply WO.hpv; exact rfl; exact rfl; exact rfl) | (apply WO.pl; exact rfl; exact rfl) | (apply WO.pp; exact rfl; exact rfl)
    · rename_i h
      exact ⟨.inr rfl, rfl, _, rfl, by rw [imgE, headE, ho]; simp [show l.length = 0 by omega, tupA], rfl⟩
    · rename_i h1 h2
      exact ⟨.inr rfl, rfl, _, rfl, by rw [imgE, headE, ho]; simp [show l.length ≠ 0 by omega, show 4096 < l.length by omega, tupA], rfl⟩
    · rename_i h1 h2
      have hh : headE rows l.length = 0 := by rw [headE, ho]; simp [show l.length ≠ 0 by omega, show ¬ 4096 < l.length by omega]
      refine loop18 C rows l hL hl _ l.length 0 _ _ _ (by omega) (fun h a4 lo wr => ?_) (fun a3 a4 lo wr => ?_)
      · repeat' first | apply W.seq | apply SQn | apply W.region | apply WO.nil | apply W.ret | apply BQe | (apply WO.pp; exact rfl; exact rfl)
        rw [List.drop_zero] at h
        exact ⟨.inr rfl, rfl, _, rfl, by rw [imgE, hh, h]; rfl, rfl⟩
      · repeat' first | apply SQr | apply BQr
        rw [List.drop_zero]
        exact ⟨.inr rfl, rfl, _, rfl, by rw [imgE, hh]; rfl, rfl⟩
  · repeat' first | apply W.seq | apply SQn | apply W.region | apply WO.nil | apply W.ret | apply SQr | (apply W.condT; exact rfl) | (apply WO.cll; exact rfl; exact rfl; first | exact hc _) | (apply WO.hlv; exact rfl; exact rfl; exact rfl) | (apply WO.hpv; exact rfl; exact rfl; exact rfl) | (apply WO.pl; exact rfl; exact rfl) | (apply WO.pp; exact rfl; exact rfl)
    exact ⟨.inr rfl, rfl, _, rfl, by rw [imgE, headE, ho]; rfl, rfl⟩

/-! The program. -/
structure C70 (M : Mach) : Prop where
  ft : M.FT = FT
  c91 : ∀ t e h, M.ext 91 [.bool t, .int .i64 e] h = some ⟨.int .i64 (if t then e else 0), h, []⟩
  c121 : ∀ x lo hi h, M.ext 121 [.int .i64 x, .int .i64 lo, .int .i64 hi] h = some ⟨.int .i64 (if outI x lo hi then 3 else 0), h, []⟩
  c90 : ∀ v l h, intsAt h v = some l → l.length < 4611686018427387904 → M.ext 90 [v] h = some ⟨.int .i64 (firstNZ l), h, []⟩
  c153 : ∀ s h, s.length < 4611686018427387904 → M.ext 153 [.str s] h = some ⟨.bool (s.all pixB), h, []⟩
theorem ints_at' {h : Heap} {b n : Nat} {cap : Option Nat} {l : List Int} {e : TypeId} (hb : h.at b = some (.cells (ints l) e)) (hl : l.length = n) : intsAt h (.sl b 0 n 1 cap) = some l := by
  subst hl
  have e0 : (ints l).length = l.length := (arr_length (f := fun x : Int => [AV.int .i64 x]) (esz := 1) (fun _ => rfl) l).trans (Nat.mul_one _)
  have e1 : cut (ints l) 0 (l.length * 1) = some (ints l) := by
    rw [Nat.mul_one, ← e0]; simp [cut]
  simp only [intsAt, cellsAt, hb, e1, Option.map_some, decInts_ints]
  simp
theorem C70.q2 (C : C70 M) (H : Heap) (a b : Int) : M.ext 90 [.sl H.length 0 2 1 (some 2)] (H ++ [some (.cells [.int .i64 a, .int .i64 b] 28)]) = some ⟨.int .i64 (firstNZ [a, b]), H ++ [some (.cells [.int .i64 a, .int .i64 b] 28)], []⟩ := by
  have e : Heap.at (H ++ [some (.cells [.int .i64 a, .int .i64 b] 28)]) H.length = some (.cells (ints [a, b]) 28) := at_new
  exact C.c90 _ [a, b] _ (ints_at' e rfl) (by simp)
theorem C70.q3 (C : C70 M) (H : Heap) (a b c : Int) : M.ext 90 [.sl H.length 0 3 1 (some 3)] (H ++ [some (.cells [.int .i64 a, .int .i64 b, .int .i64 c] 28)]) = some ⟨.int .i64 (firstNZ [a, b, c]), H ++ [some (.cells [.int .i64 a, .int .i64 b, .int .i64 c] 28)], []⟩ := by
  have e : Heap.at (H ++ [some (.cells [.int .i64 a, .int .i64 b, .int .i64 c] 28)]) H.length = some (.cells (ints [a, b, c]) 28) := at_new
  exact C.c90 _ [a, b, c] _ (ints_at' e rfl) (by simp)
theorem col_first (rows : Int) (s : Str) : firstNZ [if decide (¬ (s.length : Int) = rows) = true then 2 else 0, if (!s.all pixB) = true then 1 else 0] = colE rows s := by
  unfold colE
  by_cases h : (s.length : Int) = rows <;> cases hp : s.all pixB <;> simp [firstNZ, h]
theorem head_first (rows : Int) (n : Nat) : firstNZ [if outI rows 1 64 = true then 3 else 0, if decide ((n : Int) = 0) = true then 12 else 0, if decide ((n : Int) > 4096) = true then 5 else 0] = headE rows n := by
  unfold headE
  cases ho : outI rows 1 64
  · by_cases h0 : n = 0
    · simp [firstNZ, h0]
    · by_cases hm : 4096 < n
      · simp [firstNZ, h0, hm, show (4096 : Int) < n by omega]
      · simp [firstNZ, h0, hm, show ¬ (4096 : Int) < n by omega]
  · simp [firstNZ]
theorem loop70 (C : C70 M) (rows : Int) (l : List Str) (hL : ∀ s ∈ l, s.length < 4611686018427387904) (hl : l.length < 1000000) (a0 a3 : AV) {Q : Ex → StW → Prop} : ∀ (r i : Nat) (a4 a5 : AV) (H : Heap) (lo : List (Nat × AV)) (wr : List Nat), i + r = l.length → H.at 0 = some (.cells [.int .i64 rows, .vs (strs l) l.length cap] 24) →
    (colsE rows (l.drop i) = 0 → ∀ a4 a5 H lo wr, Q (.exit 0) ⟨⟨[a0, .ptr 0 0, .int .i64 0, a3, a4, a5, .vs (strs l) l.length cap, .int .i64 l.length, .int .i64 l.length], lo, H, []⟩, wr⟩) →
    (∀ a4 a5 a8 H lo wr, Q .ret ⟨⟨[a0, .ptr 0 0, .int .i64 (colsE rows (l.drop i)), a3, a4, a5, .vs (strs l) l.length cap, .int .i64 l.length, a8], lo, H, []⟩, wr⟩) →
    W M (.loop b70_0) ⟨⟨[a0, .ptr 0 0, .int .i64 0, a3, a4, a5, .vs (strs l) l.length cap, .int .i64 l.length, .int .i64 i], lo, H, []⟩, wr⟩ Q
  | 0, i, a4, a5, H, lo, wr, hi, hb, h1, h2 => by
    obtain rfl : i = l.length := by omega
    refine W.loop ?_
    unfold b70_0
    repeat' first | apply W.seq | apply SQn | apply W.region | apply WO.nil | apply W.exit | apply SQe | apply LQe | (apply W.condF; exact rfl) | (apply WO.lss; exact rfl; exact rfl; all_goals first | (intro _; exfalso; omega) | intro _)
    exact h1 (by simp [colsE]) _ _ _ _ _
  | r + 1, i, a4, a5, H, lo, wr, hi, hb, h1, h2 => by
    have e := colsE_drop (rows := rows) (l := l) (i := (i : Int).toNat) (by omega)
    rw [Int.toNat_natCast] at e
    have hc := fun h => C.c153 l[((i : Int)).toNat]! h (short_get hL (by omega))
    have hf := col_first rows l[((i : Int)).toNat]!
    have q := C.q2 H (if decide (¬ ((l[((i : Int)).toNat]!).length : Int) = rows) = true then 2 else 0) (if (!(l[((i : Int)).toNat]!).all pixB) = true then 1 else 0)
    rw [hf] at q
    refine W.loop ?_
    by_cases hr : ((l[((i : Int)).toNat]!).length : Int) = rows
    · rw [decide_eq_false (fun h => h hr)] at q
      cases hp : (l[((i : Int)).toNat]!).all pixB
      all_goals
        rw [hp] at q hc
        unfold b70_0
        repeat' first | (apply WO.ldb; exact rfl; exact hb; exact rfl) | apply W.seq | apply SQn | apply W.region | apply WO.nil | apply W.block | apply W.ret | apply W.skip | apply SQr | apply BQn | apply BQr | apply LQr | (apply W.condT; exact rfl) | (apply W.condF; exact rfl) | (apply WO.lss; exact rfl; exact rfl; all_goals first | (intro _; exfalso; omega) | intro _) | (apply WO.neq; exact rfl; exact rfl; all_goals first | (intro _; exfalso; omega) | intro _) | (apply WO.add; exact rfl; exact rfl; omega) | (apply WO.cll; exact rfl; exact rfl; first | exact C.c91 _ _ _ | exact hc _ | exact q) | (apply WO.iav; exact rfl; exact rfl; omega) | (apply WO.lda; exact rfl; exact fun _ => rfl; (first | omega | (simp only [List.length_set]; omega) | (simp; omega)); decide; exact rfl; case ia => infer_instance) | (apply WO.hlv; exact rfl; exact rfl; exact rfl) | (apply WO.pl; exact rfl; exact rfl) | (apply WO.pp; exact rfl; exact rfl)
      all_goals
        rename_i he
        rw [Int.toNat_natCast] at he
        first | rw [if_pos he] at e | rw [if_neg (Decidable.not_not.2 he)] at e
        rw [e] at h1 h2
      all_goals first | (rw [Int.toNat_natCast]; exact h2 _ _ _ _ _ _) | exact LQn (loop70 C rows l hL hl a0 a3 r (i + 1) _ _ _ _ _ (by omega) (at_old hb) h1 h2)
    · rw [decide_eq_true hr] at q
      cases hp : (l[((i : Int)).toNat]!).all pixB
      all_goals
        rw [hp] at q hc
        unfold b70_0
        repeat' first | (apply WO.ldb; exact rfl; exact hb; exact rfl) | apply W.seq | apply SQn | apply W.region | apply WO.nil | apply W.block | apply W.ret | apply W.skip | apply SQr | apply BQn | apply BQr | apply LQr | (apply W.condT; exact rfl) | (apply W.condF; exact rfl) | (apply WO.lss; exact rfl; exact rfl; all_goals first | (intro _; exfalso; omega) | intro _) | (apply WO.neq; exact rfl; exact rfl; all_goals first | (intro _; exfalso; omega) | intro _) | (apply WO.add; exact rfl; exact rfl; omega) | (apply WO.cll; exact rfl; exact rfl; first | exact C.c91 _ _ _ | exact hc _ | exact q) | (apply WO.iav; exact rfl; exact rfl; omega) | (apply WO.lda; exact rfl; exact fun _ => rfl; (first | omega | (simp only [List.length_set]; omega) | (simp; omega)); decide; exact rfl; case ia => infer_instance) | (apply WO.hlv; exact rfl; exact rfl; exact rfl) | (apply WO.pl; exact rfl; exact rfl) | (apply WO.pp; exact rfl; exact rfl)
      all_goals
        rename_i he
        rw [Int.toNat_natCast] at he
        first | rw [if_pos he] at e | rw [if_neg (Decidable.not_not.2 he)] at e
        rw [e] at h1 h2
      all_goals first | (rw [Int.toNat_natCast]; exact h2 _ _ _ _ _ _) | exact LQn (loop70 C rows l hL hl a0 a3 r (i + 1) _ _ _ _ _ (by omega) (at_old hb) h1 h2)
theorem w70 (C : C70 M) (rows : Int) (l : List Str) (hL : ∀ s ∈ l, s.length < 4611686018427387904) (hl : l.length < 1000000) : Run M 70 [.agg [.int .i64 rows, .vs (strs l) l.length cap]] [] ⟨.int .i64 (imgE rows l), [], []⟩ := by
  refine run_of_W (by rw [C.ft]; exact ft70) (by simp) ?_
  have hf := head_first rows l.length
  have q := C.q3 [some (.cells [.int .i64 rows, .vs (strs l) l.length cap] 24)] (if outI rows 1 64 = true then 3 else 0) (if decide ((l.length : Int) = 0) = true then 12 else 0) (if decide ((l.length : Int) > 4096) = true then 5 else 0)
  rw [hf] at q
  unfold b70
  simp only [List.map_cons, List.map_nil, List.getElem?_cons_zero, List.getElem?_cons_succ, List.getElem?_nil, Option.getD_some, Option.getD_none]
  by_cases h0 : (l.length : Int) = 0 <;> by_cases hm : (l.length : Int) > 4096
  all_goals try (exfalso; omega)
  all_goals
    first | rw [decide_eq_true h0] at q | rw [decide_eq_false h0] at q
    first | rw [decide_eq_true hm] at q | rw [decide_eq_false hm] at q
    repeat' first | apply W.seq | apply SQn | apply W.region | apply WO.nil | apply W.block | apply W.ret | apply W.skip | apply SQr | apply W.draw | apply WD.nil | (apply WD.pure1; exact rfl) | (apply WD.load1; exact rfl; exact rfl; exact rfl) | (apply WD.new1; exact rfl) | (apply W.condT; exact rfl) | (apply W.condF; exact rfl) | (apply WO.gtr; exact rfl; exact rfl; all_goals first | (intro _; exfalso; omega) | intro _) | (apply WO.eql; exact rfl; exact rfl; all_goals first | (intro _; exfalso; omega) | intro _) | (apply WO.neq; exact rfl; exact rfl; all_goals first | (intro _; exfalso; omega) | intro _) | (apply WD.cl0; exact rfl; exact rfl; exact rfl; first | exact C.c91 _ _ _ | exact C.c121 _ _ _ _ | exact q) | (apply WO.hlv; exact rfl; exact rfl; exact rfl) | (apply WO.hpv; exact rfl; exact rfl; exact rfl) | (apply WO.pl; exact rfl; exact rfl) | (apply WO.pp; exact rfl; exact rfl)
  all_goals first
    | (rename_i he; exact ⟨.inr rfl, rfl, _, rfl, by rw [imgE, if_pos he]; rfl, rfl⟩)
    | skip
  all_goals
    rename_i he
    refine loop70 C rows l hL hl _ _ l.length 0 _ _ _ _ _ (by omega) rfl (fun h a4 a5 H lo wr => ?_) (fun a4 a5 a8 H lo wr => ?_)
    · rw [List.drop_zero] at h
      repeat' first | apply W.seq | apply SQn | apply W.region | apply WO.nil | apply W.ret | apply BQe | (apply WO.pp; exact rfl; exact rfl)
      exact ⟨.inr rfl, rfl, _, rfl, by rw [imgE, he, h]; rfl, rfl⟩
    · rw [List.drop_zero]
      repeat' first | apply SQr | apply BQr
      exact ⟨.inr rfl, rfl, _, rfl, by rw [imgE, he]; rfl, rfl⟩
end Go.Ab.Ch5


/-
  Own work: images: the first column of a letter, both ways; short ones.
-/
namespace Go.Ab.Ch5
variable {M : Mach} {cap : Option Nat}

/-! Short, IsAthlete, Outside, checkAthlete. -/
def shortB (l : List Str) : Bool := if (60 < l.length ∧ l.length ≤ 4096) ∨ 4098 < l.length then false else l.all (fun s => decide (s.length ≤ 66))
theorem sh_drop {l : List Str} {i : Nat} (h : i < l.length) : (l.drop i).all (fun s => decide (s.length ≤ 66)) = (decide ((l[i]!).length ≤ 66) && (l.drop (i + 1)).all (fun s => decide (s.length ≤ 66))) := by
  rw [List.drop_eq_getElem_cons h, getElem!_pos l i h, List.all_cons]
theorem loop16 (rows : Int) (l : List Str) (hl : l.length < 1000000) (a0 a2 : AV) {Q : Ex → StW → Prop} : ∀ (r i : Nat) (lo : List (Nat × AV)) (wr : List Nat), i + r = l.length →
    ((l.drop i).all (fun s => decide (s.length ≤ 66)) = true → ∀ lo wr, Q (.exit 0) ⟨⟨[a0, .ptr 0 0, a2, .int .i64 l.length], lo, [some (.cells [.int .i64 rows, .vs (strs l) l.length cap] 25)], []⟩, wr⟩) →
    ((l.drop i).all (fun s => decide (s.length ≤ 66)) = false → ∀ a3 lo wr, Q .ret ⟨⟨[a0, .ptr 0 0, .bool false, a3], lo, [some (.cells [.int .i64 rows, .vs (strs l) l.length cap] 25)], []⟩, wr⟩) →
    W M (.loop b16_0) ⟨⟨[a0, .ptr 0 0, a2, .int .i64 i], lo, [some (.cells [.int .i64 rows, .vs (strs l) l.length cap] 25)], []⟩, wr⟩ Q
  | 0, i, lo, wr, hi, h1, h2 => by
    obtain rfl : i = l.length := by omega
    refine W.loop ?_
    unfold b16_0
    repeat' first | apply W.seq | apply SQn | apply W.region | apply WO.nil | apply W.exit | apply SQe | apply LQe | (apply W.condF; exact rfl) | (apply WO.lss; exact rfl; exact rfl; all_goals first | (intro _; exfalso; omega) | intro _) | (apply WO.hlv; exact rfl; exact rfl; exact rfl) | (apply WO.pl; exact rfl; exact rfl)
    exact h1 (by simp) _ _
  | r + 1, i, lo, wr, hi, h1, h2 => by
    have e := sh_drop (l := l) (i := (i : Int).toNat) (by omega)
    rw [Int.toNat_natCast] at e
    refine W.loop ?_
    unfold b16_0
    repeat' first | apply W.seq | apply SQn | apply W.region | apply WO.nil | apply W.block | apply W.ret | apply W.skip | apply SQr | apply BQn | apply BQr | apply LQr | (apply W.condT; exact rfl) | (apply W.condF; exact rfl) | (apply WO.lss; exact rfl; exact rfl; all_goals first | (intro _; exfalso; omega) | intro _) | (apply WO.gtr; exact rfl; exact rfl; all_goals first | (intro _; exfalso; omega) | intro _) | (apply WO.add; exact rfl; exact rfl; omega) | (apply WO.iav; exact rfl; exact rfl; omega) | (apply WO.lda; exact rfl; exact fun _ => rfl; (first | omega | (simp only [List.length_set]; omega) | (simp; omega)); decide; exact rfl; case ia => infer_instance) | (apply WO.hlv; exact rfl; exact rfl; exact rfl) | (apply WO.pl; exact rfl; exact rfl) | (apply WO.pp; exact rfl; exact rfl)
    · rename_i he
      rw [Int.toNat_natCast] at he
      rw [decide_eq_false (by omega), Bool.false_and] at e
      exact h2 e _ _ _
    · rename_i he
      rw [Int.toNat_natCast] at he
      rw [decide_eq_true (by omega), Bool.true_and] at e
      rw [e] at h1 h2
      exact LQn (loop16 rows l hl a0 a2 r (i + 1) _ _ (by omega) h1 h2)
theorem w16 (hft : M.FT = FT) (rows : Int) (l : List Str) : Run M 16 [.agg [.int .i64 rows, .vs (strs l) l.length cap]] [] ⟨.bool (shortB l), [], []⟩ := by
  refine run_of_W (by rw [hft]; exact ft16) (by simp) ?_
  unfold b16
  simp only [List.map_cons, List.map_nil, List.getElem?_cons_zero, List.getElem?_cons_succ, List.getElem?_nil, Option.getD_some, Option.getD_none]
  by_cases hs : (60 < l.length ∧ l.length ≤ 4096) ∨ 4098 < l.length
  · repeat' first | apply W.seq | apply SQn | apply W.region | apply WO.nil | apply W.ret | apply SQr | (apply W.condT; exact rfl) | (apply WO.gT; exact rfl) | (apply WO.gF; exact rfl) | (apply WO.sF; exact rfl) | (apply WO.leq; exact rfl; exact rfl; all_goals first | (intro _; exfalso; omega) | intro _) | (apply WO.gtr; exact rfl; exact rfl; all_goals first | (intro _; exfalso; omega) | intro _) | (apply WO.pkT; exact rfl; exact rfl) | (apply WO.pkF; exact rfl; exact rfl) | (apply WO.hlv; exact rfl; exact rfl; exact rfl) | (apply WO.hpv; exact rfl; exact rfl; exact rfl) | (apply WO.pl; exact rfl; exact rfl) | (apply WO.pp; exact rfl; exact rfl)
    all_goals exact ⟨.inr rfl, rfl, _, rfl, by rw [shortB, if_pos hs]; rfl, rfl⟩
  · repeat' first | apply W.seq | apply SQn | apply W.region | apply WO.nil | apply W.block | apply W.skip | (apply W.condF; exact rfl) | (apply WO.gT; exact rfl) | (apply WO.gF; exact rfl) | (apply WO.sT; exact rfl) | (apply WO.leq; exact rfl; exact rfl; all_goals first | (intro _; exfalso; omega) | intro _) | (apply WO.gtr; exact rfl; exact rfl; all_goals first | (intro _; exfalso; omega) | intro _) | (apply WO.pkT; exact rfl; exact rfl) | (apply WO.pkF; exact rfl; exact rfl) | (apply WO.hlv; exact rfl; exact rfl; exact rfl) | (apply WO.hpv; exact rfl; exact rfl; exact rfl) | (apply WO.pl; exact rfl; exact rfl) | (apply WO.pp; exact rfl; exact rfl)
    all_goals
      refine loop16 rows l (by omega) _ _ l.length 0 _ _ (by omega) (fun h lo wr => ?_) (fun h a3 lo wr => ?_)
      · rw [List.drop_zero] at h
        repeat' first | apply W.seq | apply SQn | apply W.region | apply WO.nil | apply W.ret | apply BQe | (apply WO.pp; exact rfl; exact rfl)
        exact ⟨.inr rfl, rfl, _, rfl, by rw [shortB, if_neg hs, h]; rfl, rfl⟩
      · rw [List.drop_zero] at h
        repeat' first | apply SQr | apply BQr
        exact ⟨.inr rfl, rfl, _, rfl, by rw [shortB, if_neg hs, h]; rfl, rfl⟩
/-! The first column of a byte. -/
def hasB (c : Int) (s : Str) : Bool := s.any (fun b => decide ((b.toNat : Int) = c))
theorem hasB_drop {c : Int} {s : Str} {i : Nat} (h : i < s.length) : hasB c (s.drop i) = (decide (((s[i]!).toNat : Int) = c) || hasB c (s.drop (i + 1))) := by
  rw [hasB, hasB, List.drop_eq_getElem_cons h, getElem!_pos s i h, List.any_cons]
end Go.Ab.Ch5


/-
  Own work: images: strings.Contains of one byte, find, First.
-/
namespace Go.Ab.Ch5
variable {M : Mach} {cap : Option Nat}

theorem firstIdx_has (s : Str) (b : UInt8) : decide (0 ≤ firstIdx ⟨s.toArray⟩ b) = hasB b.toNat s := by
  unfold firstIdx hasB
  have hsz : (ByteArray.mk s.toArray).size = s.length := by simp [ByteArray.size]
  have hg : ∀ i, i < s.length → (ByteArray.mk s.toArray)[i]! = s[i]! := fun i hi => by
    have h1 : i < (ByteArray.mk s.toArray).size := by rw [hsz]; exact hi
    rw [getElem!_pos (ByteArray.mk s.toArray) i h1, getElem!_pos s i hi]
    rfl
  cases hf : (List.range (ByteArray.mk s.toArray).size).find? fun i => (ByteArray.mk s.toArray)[i]! == b with
  | some i =>
    have h1 := List.find?_some hf
    have h2 := List.mem_of_find?_eq_some hf
    rw [List.mem_range, hsz] at h2
    rw [hg i h2] at h1
    symm
    simp only [decide_eq_true (show (0 : Int) ≤ (i : Int) by omega)]
    rw [List.any_eq_true]
    refine ⟨s[i], List.getElem_mem h2, ?_⟩
    rw [getElem!_pos s i h2] at h1
    simp at h1
    simp [h1]
  | none =>
    rw [List.find?_eq_none] at hf
    symm
    rw [show decide ((0 : Int) ≤ -1) = false from rfl]
    rw [List.any_eq_false]
    intro x hx
    obtain ⟨i, hi, rfl⟩ := List.mem_iff_getElem.1 hx
    have := hf i (by rw [List.mem_range, hsz]; exact hi)
    rw [hg i hi, getElem!_pos s i hi] at this
    simp at this
    simp only [decide_eq_true_eq]
    intro e
    exact this (UInt8.toNat_inj.1 (by omega))

structure C162 (M : Mach) : Prop where
  ft : M.FT = FT
  n213 : ∀ ars h, M.ext 213 ars h = none
  n270 : ∀ ars h, M.ext 270 ars h = none
  n316 : ∀ ars h, M.ext 316 ars h = none
  c336 : ∀ (s : Str) (c : Int) h, M.ext 336 [.str s, .int .u8 c] h = some ⟨.int .i64 (firstIdx ⟨s.toArray⟩ c.toNat.toUInt8), h, []⟩
theorem toU8 (b : UInt8) : ((b.toNat : Int)).toNat.toUInt8 = b := by simp
theorem r316 (C : C162 M) (s : Str) (b : UInt8) (H : Heap) : CT M (fnV 316) [.str s, .int .u8 b.toNat] H ⟨.int .i64 (firstIdx ⟨s.toArray⟩ b), H, []⟩ := by
  have hc := C.c336 s b.toNat H
  rw [toU8] at hc
  refine CT.run (C.n316 _ _) (run_same (by rw [C.ft]; exact ft316) (by simp) ?_)
  simp only [List.nil_append, List.append_nil]
  unfold b316
  simp only [List.map_cons, List.map_nil, List.getElem?_cons_zero, List.getElem?_cons_succ, List.getElem?_nil, Option.getD_some, Option.getD_none]
  repeat' first | apply W.seq | apply SQn | apply W.region | apply WO.nil | apply W.ret | (apply WO.cll; exact rfl; exact rfl; first | exact hc) | (apply WO.pl; exact rfl; exact rfl) | (apply WO.pp; exact rfl; exact rfl)
  exact ⟨.inr rfl, rfl, rfl, rfl, _, rfl, rfl⟩
theorem r270 (C : C162 M) (s : Str) (b : UInt8) (H : Heap) : CT M (fnV 270) [.str s, .str [b]] H ⟨.int .i64 (firstIdx ⟨s.toArray⟩ b), H, []⟩ := by
  have hc := r316 C s b H
  have hn0 : ¬ (([b] : Str).length : Int) = 0 := by simp
  have hn : (([b] : Str).length : Int) = 1 := rfl
  refine CT.run (C.n270 _ _) (run_same (by rw [C.ft]; exact ft270) (by simp) ?_)
  simp only [List.nil_append, List.append_nil]
  unfold b270
  simp only [List.map_cons, List.map_nil, List.getElem?_cons_zero, List.getElem?_cons_succ, List.getElem?_nil, Option.getD_some, Option.getD_none]
  by_cases hs : ([b] : Str) = s
  · subst hs
    have e : firstIdx ⟨([b] : Str).toArray⟩ b = 0 := by
      have h1 := firstIdx_has [b] b
      have h2 : hasB b.toNat [b] = true := by simp [hasB]
      rw [h2, decide_eq_true_eq] at h1
      unfold firstIdx at h1 ⊢
      rw [show (ByteArray.mk ([b] : Str).toArray).size = 1 from rfl] at h1 ⊢
      rw [show List.range 1 = [0] from rfl] at h1 ⊢
      have h3 : ((ByteArray.mk ([b] : Str).toArray)[0]! == b) = true := by
        cases hq : ((ByteArray.mk ([b] : Str).toArray)[0]! == b) with
        | true => rfl
        | false => simp [hq] at h1
      simp only [List.find?_cons, h3]
      rfl
    rw [e]
    repeat' first | (apply WO.seql; exact rfl; exact rfl; all_goals first | (intro h; exact absurd rfl h) | intro _) | apply W.seq | apply SQn | apply W.region | apply WO.nil | apply W.block | apply W.ret | apply SQr | apply BQr | (apply W.condT; exact rfl) | (apply WO.gF; exact rfl) | (apply WO.eql; exact rfl; exact rfl; all_goals first | (intro _; exfalso; omega) | intro _) | (apply WO.pkF; exact rfl; exact rfl) | (apply WO.pl; exact rfl; exact rfl) | (apply WO.pp; exact rfl; exact rfl)
    all_goals exact ⟨.inr rfl, rfl, rfl, rfl, _, rfl, rfl⟩
  · repeat' first | (apply WO.seql; exact rfl; exact rfl; all_goals first | (intro h; exact absurd h hs) | intro _) | apply W.seq | apply SQn | apply W.region | apply WO.nil | apply W.block | apply W.ret | apply SQr | apply BQr | (apply W.condT; exact rfl) | (apply W.condF; exact rfl) | (apply WO.gF; exact rfl) | (apply WO.eql; exact rfl; exact rfl; all_goals first | (intro _; exfalso; omega) | intro _) | (apply WO.pkF; exact rfl; exact rfl) | (apply WO.ct; exact rfl; exact rfl; first | exact hc) | (apply WO.idx; exact rfl; exact rfl; omega) | (apply WO.pl; exact rfl; exact rfl) | (apply WO.pp; exact rfl; exact rfl)
    all_goals exact ⟨.inr rfl, rfl, rfl, rfl, _, rfl, rfl⟩
theorem r213 (C : C162 M) (s : Str) (b : UInt8) (H : Heap) : CT M (fnV 213) [.str s, .str [b]] H ⟨.int .i64 (firstIdx ⟨s.toArray⟩ b), H, []⟩ := by
  have hc := r270 C s b H
  refine CT.run (C.n213 _ _) (run_same (by rw [C.ft]; exact ft213) (by simp) ?_)
  simp only [List.nil_append, List.append_nil]
  unfold b213
  simp only [List.map_cons, List.map_nil, List.getElem?_cons_zero, List.getElem?_cons_succ, List.getElem?_nil, Option.getD_some, Option.getD_none]
  repeat' first | apply W.seq | apply SQn | apply W.region | apply WO.nil | apply W.ret | (apply WO.ct; exact rfl; exact rfl; first | exact hc) | (apply WO.pl; exact rfl; exact rfl) | (apply WO.pp; exact rfl; exact rfl)
  exact ⟨.inr rfl, rfl, rfl, rfl, _, rfl, rfl⟩
theorem w162 (C : C162 M) (s : Str) (b : UInt8) : Run M 162 [.str s, .str [b]] [] ⟨.bool (hasB b.toNat s), [], []⟩ := by
  have hc := r213 C s b []
  rw [← firstIdx_has s b]
  refine run_of_W (by rw [C.ft]; exact ft162) (by simp) ?_
  unfold b162
  simp only [List.map_cons, List.map_nil, List.getElem?_cons_zero, List.getElem?_cons_succ, List.getElem?_nil, Option.getD_some, Option.getD_none]
  repeat' first | apply W.seq | apply SQn | apply W.region | apply WO.nil | apply W.ret | (apply WO.geq; exact rfl; exact rfl; all_goals first | (intro _; exfalso; omega) | intro _) | (apply WO.ct; exact rfl; exact rfl; first | exact hc) | (apply WO.pl; exact rfl; exact rfl) | (apply WO.pp; exact rfl; exact rfl)
  all_goals (rename_i h; exact ⟨.inr rfl, rfl, _, rfl, congrArg AV.bool (by simp [h]), rfl⟩)

end Go.Ab.Ch5


/-
  Own work: images: the torsos.
-/
namespace Go.Ab.Ch5
variable {M : Mach} {cap : Option Nat}

/-! Rules. -/
theorem WO.iaa {t esz n0 : Nat} {x i : IOpd} {l : List IOper} {pe : List AV} {lo : List (Nat × AV)} {hp : Heap} {df wr : List Nat} {b o : Nat} {k : IntKind} {n : Int} {Q : StW → Prop} (hx : (St.mk pe lo hp df).opd x = some (.ptr b o)) (hy : (St.mk pe lo hp df).opd i = some (.int k n)) (hb : 0 ≤ n ∧ n < n0)
    (h : WO M l ⟨⟨pe, (t, .ptr b (o + n.toNat * esz)) :: lo, hp, df⟩, wr⟩ Q) : WO M (⟨.l t, .iaddr (some n0) esz x i, none⟩ :: l) ⟨⟨pe, lo, hp, df⟩, wr⟩ Q :=
  WO.pl (v := .ptr b (o + n.toNat * esz)) (by simp [pureA, hx, hy, iaddrA, hb]) rfl h
theorem WO.sub8 {t : Nat} {x y : IOpd} {l : List IOper} {pe : List AV} {lo : List (Nat × AV)} {hp : Heap} {df wr : List Nat} {a b : Int} {Q : StW → Prop} (hx : (St.mk pe lo hp df).opd x = some (.int .u8 a)) (hy : (St.mk pe lo hp df).opd y = some (.int .u8 b)) (hr : 0 ≤ a - b ∧ a - b < 256)
    (h : WO M l ⟨⟨pe, (t, .int .u8 (a - b)) :: lo, hp, df⟩, wr⟩ Q) : WO M (⟨.l t, .bin .sub x y, none⟩ :: l) ⟨⟨pe, lo, hp, df⟩, wr⟩ Q :=
  WO.pl (v := .int .u8 (a - b)) (by
    have : IntKind.u8.wrap (a - b) = a - b := by simp only [IntKind.wrap, IntKind.bits, IntKind.signed]; simp; omega
    simp only [pureA, hx, hy, binA, if_true, this]) rfl h
end Go.Ab.Ch5


/-
  Own work: images: the names of the torsos, both ways.
-/
namespace Go.Ab.Ch5
variable {M : Mach} {cap : Option Nat}

/-! A list of texts that is being built. -/
theorem strs_len (l : List Str) : (strs l).length = l.length := (arr_length (f := cs) (esz := 1) (fun _ => rfl) l).trans (Nat.mul_one _)
theorem strs_append (a b : List Str) : strs (a ++ b) = strs a ++ strs b := by simp [strs, arr]
def OutW (hp : Heap) (o : AV) (acc : List Str) : Prop := (acc = [] ∧ o = .nilsl) ∨ ∃ c, acc ≠ [] ∧ o = .sl c 0 acc.length 1 none ∧ hp.at c = some (.cells (strs acc) 9)
/-- One element is appended to a slice whose block nothing else names. -/
theorem WO.ap16 {t len c : Nat} {x y : IOpd} {l : List IOper} {pe : List AV} {lo : List (Nat × AV)} {hp : Heap} {df wr : List Nat} {v : AV} {old : List AV} {Q : StW → Prop} (hx : (St.mk pe lo (hp ++ [some (.cells [v] 9)]) df).opd x = some (.sl c 0 len 1 none)) (hy : (St.mk pe lo (hp ++ [some (.cells [v] 9)]) df).opd y = some (.sl hp.length 0 1 1 (some 1)))
    (hv : oneA v = true) (hb : hp.at c = some (.cells old 9)) (ho : old.length = len) (hn : len < 1000000)
    (h : ∀ (H : Heap) (w' : List Nat), H.length = hp.length + 2 → H.at (hp.length + 1) = some (.cells (old ++ [v]) 9) → (∀ a o, a ≠ c → hp.at a = some o → H.at a = some o) → (∀ a ∈ w', a = c ∨ a ∈ wr) → WO M l ⟨⟨pe, (t, .sl (hp.length + 1) 0 (len + 1) 1 none) :: lo, H, df⟩, w'⟩ Q) :
    WO M (⟨.l t, .append 9 1 16 x y, none⟩ :: l) ⟨⟨pe, lo, hp ++ [some (.cells [v] 9)], df⟩, wr⟩ Q := by
  have hs : sliceCells (hp ++ [some (.cells [v] 9)]) (.sl hp.length 0 1 1 (some 1)) = some ([v], 1) := by
    simp [sliceCells, at_new, cut]
  have hc := at_lt hb
  have hb' : Heap.at (hp ++ [some (.cells [v] 9)]) c = some (.cells old 9) := at_old hb
  have hroom : (len + 1) * 16 ≤ roomLimit := by unfold roomLimit; omega
  refine WO.hlv (v := .sl (hp.length + 1) 0 (len + 1) 1 none) (h' := (hp ++ [some (Blk.cells [v] 9)]).put c none ++ [some (Blk.cells (old ++ [v]) 9)]) (w' := [c]) ?_ rfl rfl (h _ _ (by simp [put_length]) ?_ (fun a o hn ha => ?_) (fun a ha => ?_))
  · simp only [heapA, hx, hy, appendA, hs]
    rw [if_pos ⟨by simp, by omega, by simp [hv]⟩, if_neg (by omega), if_pos ⟨trivial, hroom⟩, hb']
    simp only
    rw [if_pos ⟨by omega, trivial⟩]
    simp
  · have : ((hp ++ [some (Blk.cells [v] 9)]).put c none).length = hp.length + 1 := by simp [put_length]
    rw [← this]; exact at_new
  · exact at_old (at_else hn (at_old ha))
  · simp at ha; exact ha
theorem OutW.push {t : Nat} {x : Str} {l : List IOper} {pe : List AV} {lo : List (Nat × AV)} {hp : Heap} {df wr : List Nat} {a b : IOpd} {o : AV} {acc : List Str} {Q : StW → Prop} (h : OutW hp o acc) (ha : (St.mk pe lo (hp ++ [some (.cells [.str x] 9)]) df).opd a = some o) (hb : (St.mk pe lo (hp ++ [some (.cells [.str x] 9)]) df).opd b = some (.sl hp.length 0 1 1 (some 1)))
    (hn : acc.length < 1000000) (hQ : ∀ (H : Heap) (w' : List Nat) o', OutW H o' (acc ++ [x]) → (∀ k blk, (∀ c, o = .sl c 0 acc.length 1 none → k ≠ c) → hp.at k = some blk → H.at k = some blk) → (∀ c n, o' = .sl c 0 n 1 none → hp.length ≤ c) → hp.length ≤ H.length → WO M l ⟨⟨pe, (t, o') :: lo, H, df⟩, w'⟩ Q) : WO M (⟨.l t, .append 9 1 16 a b, none⟩ :: l) ⟨⟨pe, lo, hp ++ [some (.cells [.str x] 9)], df⟩, wr⟩ Q := by
  rcases h with ⟨rfl, rfl⟩ | ⟨c, _, rfl, hc⟩
  · have hs : sliceCells (hp ++ [some (.cells [.str x] 9)]) (.sl hp.length 0 1 1 (some 1)) = some ([.str x], 1) := by
      simp [sliceCells, at_new, cut]
    refine WO.apn ha hb hs ⟨rfl, by decide, rfl⟩ ⟨by decide, by decide⟩ (hQ _ _ _ (.inr ⟨_, by simp, rfl, at_new⟩) (fun k blk _ hk => at_old (at_old hk)) (fun c n hc => by cases hc; simp) (by simp))
  · refine WO.ap16 ha hb rfl hc (strs_len acc) hn (fun H w' h1 h2 h3 _ => hQ H w' _ (.inr ⟨hp.length + 1, by simp, by simp, ?_⟩) (fun k blk hk hb => h3 k blk (hk c rfl) hb) (fun c n hc => by cases hc; omega) (by omega))
    rw [h2, strs_append]
    rfl
theorem OutW.old {hp J : Heap} {o : AV} {acc : List Str} (h : OutW hp o acc) : OutW (hp ++ J) o acc := by
  rcases h with h | ⟨c, h0, h1, h2⟩
  · exact .inl h
  · exact .inr ⟨c, h0, h1, at_old h2⟩
end Go.Ab.Ch5


/-
  Own work: images: Torsos; the columns in the other order, both ways.
-/
namespace Go.Ab.Ch5
variable {M : Mach} {cap : Option Nat} {h : Heap} {b n : Nat}

/-! slices.Clone, slices.Reverse. -/
theorem strs_one (l : List Str) : (strs l).all oneA = true := one_arr (fun _ => rfl) l
theorem w206 (hft : M.FT = FT) (l : List Str) (hl : l ≠ []) (hn : l.length < 1000000) : Run M 206 [.vs (strs l) l.length cap] [] ⟨.sl 1 0 l.length 1 none, [some (.cells [] 9), some (.cells (strs l) 9)], []⟩ := by
  have hp : 0 < l.length := List.length_pos_iff.2 hl
  have hs : ∀ h, sliceCells h (.vs (strs l) l.length cap) = some (strs l, l.length) := fun _ => rfl
  have he : eqRef .slice (.vs (strs l) l.length cap) .nilsl = some false := by
    cases l with
    | nil => exact absurd rfl hl
    | cons a l => rfl
  have hroom : l.length * 16 ≤ roomLimit := by unfold roomLimit; omega
  refine run_of_W (by rw [hft]; exact ft206) (by simp) ?_
  unfold b206
  simp only [List.map_cons, List.map_nil, List.getElem?_cons_zero, List.getElem?_cons_succ, List.getElem?_nil, Option.getD_some, Option.getD_none]
  repeat' first | apply W.seq | apply SQn | apply W.region | apply WO.nil | apply W.ret | apply W.skip | (apply W.condF; exact rfl) | (apply WO.eqs; exact rfl; exact rfl; exact he) | (apply WO.apc; exact rfl; exact rfl; exact rfl; exact hs _; exact ⟨(strs_len l).trans (Nat.mul_one _).symm, by decide, strs_one l⟩; exact ⟨hp, hroom⟩) | (apply WO.hlv; exact rfl; exact rfl; exact rfl) | (apply WO.pl; exact rfl; exact rfl) | (apply WO.pp; exact rfl; exact rfl)
  exact ⟨.inr rfl, rfl, _, rfl, rfl, rfl⟩

def revS : Nat → Nat → List Str → List Str
  | 0, _, A => A
  | r + 1, i, A => revS r (i + 1) ((A.set i A[A.length - 1 - i]!).set (A.length - 1 - i) A[i]!)
theorem revS_len : ∀ (r i : Nat) (A : List Str), (revS r i A).length = A.length
  | 0, _, _ => rfl
  | r + 1, i, A => by rw [revS, revS_len]; simp
theorem set_get {A : List Str} {i k : Nat} {x : Str} (hk : k < A.length) : (A.set i x)[k]! = if i = k then x else A[k]! := by
  rw [getElem!_pos _ k (by simpa using hk), List.getElem_set, getElem!_pos A k hk]
theorem revS_get {l : List Str} : ∀ (r i : Nat) (A : List Str), i + r = l.length / 2 → A.length = l.length → (∀ k, k < l.length → A[k]! = if k < i ∨ l.length - 1 - i < k then l[l.length - 1 - k]! else l[k]!) → ∀ k, k < l.length → (revS r i A)[k]! = l[l.length - 1 - k]!
  | 0, i, A, hi, hA, hinv, k, hk => by
    rw [revS, hinv k hk]
    split
    · rfl
    · congr 1; omega
  | r + 1, i, A, hi, hA, hinv, k, hk => by
    rw [revS]
    refine revS_get r (i + 1) _ (by omega) (by simpa using hA) (fun k hk => ?_) k hk
    rw [set_get (by simp; omega), set_get (by omega), hA]
    by_cases h1 : l.length - 1 - i = k
    · rw [if_pos h1, hinv i (by omega), if_neg (by omega), if_pos (by omega)]
      congr 1; omega
    · rw [if_neg h1]
      by_cases h2 : i = k
      · rw [if_pos h2, hinv (l.length - 1 - i) (by omega), if_neg (by omega), if_pos (by omega)]
        congr 1; omega
      · rw [if_neg h2, hinv k hk]
        by_cases h3 : k < i ∨ l.length - 1 - i < k
        · rw [if_pos h3, if_pos (by omega)]
        · rw [if_neg h3, if_neg (by omega)]
theorem revS_eq (l : List Str) : revS (l.length / 2) 0 l = l.reverse := by
  apply List.ext_getElem (by rw [revS_len]; simp)
  intro k hk hk'
  rw [revS_len] at hk
  rw [← getElem!_pos _ k, revS_get (l := l) (l.length / 2) 0 l (by omega) rfl (fun k hk => by rw [if_neg (by omega)]) k hk, List.getElem_reverse, getElem!_pos l _ (by omega)]
theorem loop207 (hb : b < h.length) (hn : n < 1000000) {Q : Ex → StW → Prop} : ∀ (r i : Nat), i + r = n / 2 → ∀ (l : List Str) (lo : List (Nat × AV)) (wr : List Nat), l.length = n → Only b wr →
    (∀ a1 a2 lo wr, Only b wr → Q (.exit 0) ⟨⟨[.sl b 0 n 1 cap, a1, a2], lo, h.put b (some (.cells (strs (revS r i l)) 9)), []⟩, wr⟩) →
    W M (.loop b207_0) ⟨⟨[.sl b 0 n 1 cap, .int .i64 i, .int .i64 ((n : Int) - 1 - i)], lo, h.put b (some (.cells (strs l) 9)), []⟩, wr⟩ Q
  | 0, i, hi, l, lo, wr, hl, hw, hQ => by
    refine W.loop ?_
    unfold b207_0
    repeat' first | apply W.seq | apply SQn | apply W.region | apply WO.nil | apply W.exit | apply SQe | apply LQe | (apply W.condF; exact rfl) | (apply WO.lss; exact rfl; exact rfl; all_goals first | (intro _; exfalso; omega) | intro _) | (apply WO.pl; exact rfl; exact rfl)
    · exact hQ _ _ _ _ hw
  | r + 1, i, hi, l, lo, wr, hl, hw, hQ => by
    have f1 : ((i : Int)).toNat = i := Int.toNat_natCast i
    have f2 : ((n : Int) - 1 - (i : Int)).toNat = l.length - 1 - i := by omega
    have hli : i < l.length := by omega
    have hlc : l.length - 1 - i < l.length := by omega
    refine W.loop ?_
    unfold b207_0
    repeat' first | apply W.seq | apply SQn | apply W.region | apply WO.nil | apply W.block | apply W.skip | apply BQn | apply W.draw | apply WD.nil | (apply WD.pure1; exact rfl) | (apply WD.load1; exact rfl; exact rfl; exact rfl) | (apply WD.store1; exact rfl; exact rfl; exact rfl) | (apply W.condT; exact rfl) | (apply WO.lss; exact rfl; exact rfl; all_goals first | (intro _; exfalso; omega) | intro _) | (apply WO.add; exact rfl; exact rfl; omega) | (apply WO.sub; exact rfl; exact rfl; omega) | (apply WO.ias; exact rfl; exact rfl; omega) | (apply WO.lsa; exact rfl; (first | exact rfl | assumption | exact at_new | (apply at_old; assumption) | (apply at_put; first | assumption | (simp only [put_length]; assumption))); exact fun _ => rfl; (first | omega | (simp only [List.length_set]; omega) | (simp; omega)); decide; exact rfl; case ia => infer_instance) | (apply WO.sta; exact rfl; exact rfl; (first | exact rfl | assumption | exact at_new | (apply at_old; assumption) | (apply at_put; first | assumption | (simp only [put_length]; assumption))); exact fun _ => rfl; (first | omega | (simp only [List.length_set]; omega) | (simp; omega)); exact ⟨rfl, by decide, rfl⟩; exact rfl; case ia => infer_instance) | (apply WO.pl; exact rfl; exact rfl) | (apply WO.pp; exact rfl; exact rfl)
    · refine LQn ?_
      rw [put_put, put_put, f1, f2]
      rw [show (n : Int) - 1 - (i : Int) - 1 = (n : Int) - 1 - ((i + 1 : Nat) : Int) by omega]
      exact loop207 hb hn r (i + 1) (by omega) _ _ _ (by simp [hl]) hw.cons.cons hQ
theorem r207 (hft : M.FT = FT) (n207 : ∀ ars h, M.ext 207 ars h = none) (hb : b < h.length) (l : List Str) (hl : l.length < 1000000) :
    ∃ wr, Only b wr ∧ CT M (fnV 207) [.sl b 0 l.length 1 cap] (h.put b (some (.cells (strs l) 9))) ⟨.tup [], h.put b (some (.cells (strs l.reverse) 9)), wr⟩ := by
  obtain ⟨l', wr, hw, rfl, hr⟩ := run_put (M := M) (h := h) (b := b) (l := l) (e := 9) (f := cs) (P := fun l' => l' = l.reverse)
    (ars := [.sl b 0 l.length 1 cap]) (by rw [hft]; exact ft207) (by simp) hb (fun _ => rfl) (by
      unfold b207
      simp only [List.map_cons, List.map_nil, List.getElem?_cons_zero, List.getElem?_cons_succ, List.getElem?_nil, Option.getD_some, Option.getD_none]
      repeat' first | apply W.seq | apply SQn | apply W.region | apply WO.nil | apply W.block | (apply WO.sub; exact rfl; exact rfl; omega) | (apply WO.pl; exact rfl; exact rfl) | (apply WO.pp; exact rfl; exact rfl)
      rw [show (l.length : Int) - 1 = (l.length : Int) - 1 - ((0 : Nat) : Int) by omega]
      refine loop207 hb hl (l.length / 2) 0 (by omega) l _ _ rfl Only.nil (fun a1 a2 lo wr hw => ?_)
      repeat' first | apply BQe
      exact ⟨.inl rfl, rfl, _, rfl, hw, revS_eq l⟩)
  exact ⟨wr, hw, CT.run (n207 _ _) (by simp only [List.nil_append, List.append_nil]; exact hr)⟩
theorem w154 (hft : M.FT = FT) (n206 : ∀ ars h, M.ext 206 ars h = none) (n207 : ∀ ars h, M.ext 207 ars h = none) (l : List Str) (hl : l ≠ []) (hn : l.length < 1000000) : Run M 154 [.vs (strs l) l.length cap] [] ⟨.sl 1 0 l.length 1 none, [some (.cells [] 9), some (.cells (strs l.reverse) 9)], []⟩ := by
  have h206 : CT M (fnV 206) [.vs (strs l) l.length cap] [] ⟨.sl 1 0 l.length 1 none, [some (.cells [] 9), some (.cells (strs l) 9)], []⟩ := CT.run (n206 _ _) (by simpa using w206 hft l hl hn)
  obtain ⟨wr, hw, h207⟩ := r207 (cap := none) hft n207 (h := [some (.cells [] 9), some (.cells (strs l) 9)]) (b := 1) (by simp) l hn
  have h207' : CT M (fnV 207) [.sl 1 0 l.length 1 none] [some (.cells [] 9), some (.cells (strs l) 9)] ⟨.tup [], [some (.cells [] 9), some (.cells (strs l.reverse) 9)], wr⟩ := h207
  refine run_of_W (by rw [hft]; exact ft154) (by simp) ?_
  unfold b154
  simp only [List.map_cons, List.map_nil, List.getElem?_cons_zero, List.getElem?_cons_succ, List.getElem?_nil, Option.getD_some, Option.getD_none]
  repeat' first | apply W.seq | apply SQn | apply W.region | apply WO.nil | apply W.ret | (apply WO.ct; exact rfl; exact rfl; first | exact h206 | exact h207') | (apply WO.pl; exact rfl; exact rfl) | (apply WO.pp; exact rfl; exact rfl)
  exact ⟨.inr rfl, rfl, _, rfl, rfl, rfl⟩

/-! Mirrored. -/
structure C71 (M : Mach) : Prop where
  ft : M.FT = FT
  c70 : ∀ rows (l : List Str) cap h, (∀ s ∈ l, s.length < 4611686018427387904) → l.length < 1000000 → M.ext 70 [.agg [.int .i64 rows, .vs (strs l) l.length cap]] h = some ⟨.int .i64 (imgE rows l), h, []⟩
  c154 : ∀ (l : List Str) cap h, l ≠ [] → l.length < 1000000 → M.ext 154 [.vs (strs l) l.length cap] h = some ⟨.sl h.length 0 l.length 1 none, h ++ [some (.cells (strs l.reverse) 9)], []⟩
theorem w71e (C : C71 M) (rows : Int) (l : List Str) (hL : ∀ s ∈ l, s.length < 4611686018427387904) (hl : l.length < 1000000) (hE : imgE rows l ≠ 0) : Run M 71 [.agg [.int .i64 rows, .vs (strs l) l.length cap]] [] ⟨.tup [.agg [.int .i64 0, .nilsl], .int .i64 (imgE rows l)], [], []⟩ := by
  have q70 := fun h => C.c70 rows l cap h hL hl
  refine run_of_W (by rw [C.ft]; exact ft71) (by simp) ?_
  unfold b71
  simp only [List.map_cons, List.map_nil, List.getElem?_cons_zero, List.getElem?_cons_succ, List.getElem?_nil, Option.getD_some, Option.getD_none]
  repeat' first | apply W.seq | apply SQn | apply W.region | apply WO.nil | apply W.ret | apply SQr | (apply W.condT; exact rfl) | (apply WO.neq; exact rfl; exact rfl; all_goals first | (intro _; exfalso; omega) | intro _) | (apply WO.cll; exact rfl; exact rfl; first | exact q70 _) | (apply WO.hlv; exact rfl; exact rfl; exact rfl) | (apply WO.hpv; exact rfl; exact rfl; exact rfl) | (apply WO.hnv; exact rfl; exact rfl; exact rfl) | (apply WO.pl; exact rfl; exact rfl) | (apply WO.pp; exact rfl; exact rfl)
  · exact ⟨.inr rfl, rfl, _, rfl, rfl, rfl⟩
theorem imgE_ne {rows : Int} {l : List Str} (hE : imgE rows l = 0) : l ≠ [] := by
  rintro rfl
  unfold imgE headE at hE
  cases ho : outI rows 1 64 <;> simp [ho] at hE
theorem w71 (C : C71 M) (rows : Int) (l : List Str) (hL : ∀ s ∈ l, s.length < 4611686018427387904) (hl : l.length < 1000000) (hE : imgE rows l = 0) : Run M 71 [.agg [.int .i64 rows, .vs (strs l) l.length cap]] [] ⟨.tup [.agg [.int .i64 rows, .sl 2 0 l.length 1 none], .int .i64 0], [some (.cells [.int .i64 rows, .vs (strs l) l.length cap] 24), some (.cells [.int .i64 rows, .sl 2 0 l.length 1 none] 24), some (.cells (strs l.reverse) 9)], []⟩ := by
  have q70 := fun h => C.c70 rows l cap h hL hl
  rw [hE] at q70
  have q154 := fun h => C.c154 l cap h (imgE_ne hE) hl
  refine run_of_W (by rw [C.ft]; exact ft71) (by simp) ?_
  unfold b71
  simp only [List.map_cons, List.map_nil, List.getElem?_cons_zero, List.getElem?_cons_succ, List.getElem?_nil, Option.getD_some, Option.getD_none]
  repeat' first | apply W.seq | apply SQn | apply W.region | apply WO.nil | apply W.ret | apply W.skip | apply W.draw | apply WD.nil | (apply WD.pure1; exact rfl) | (apply WD.load1; exact rfl; exact rfl; exact rfl) | (apply WD.store1; exact rfl; exact rfl; exact rfl) | (apply W.condF; exact rfl) | (apply WO.neq; exact rfl; exact rfl; all_goals first | (intro _; exfalso; omega) | intro _) | (apply WO.cll; exact rfl; exact rfl; first | exact q70 _) | (apply WD.cl1; exact rfl; exact rfl; exact rfl; exact q154 _) | (apply WO.hlv; exact rfl; exact rfl; exact rfl) | (apply WO.hpv; exact rfl; exact rfl; exact rfl) | (apply WO.hnv; exact rfl; exact rfl; exact rfl) | (apply WO.pl; exact rfl; exact rfl) | (apply WO.pp; exact rfl; exact rfl)
  exact ⟨.inr rfl, rfl, _, rfl, rfl, rfl⟩
end Go.Ab.Ch5


/-
  Own work: images: the reference's mirrored image.
-/
namespace Go.Ab.Ch5
variable {M : Mach} {cap : Option Nat} {h : Heap} {b n : Nat}

theorem OutW.one {hp : Heap} {o : AV} {acc : List Str} (h : OutW hp o acc) : oneA o = true ∧ o.cells = some [o] := by
  rcases h with ⟨_, rfl⟩ | ⟨c, _, rfl, _⟩ <;> exact ⟨rfl, rfl⟩
theorem OutW.put {hp : Heap} {o : AV} {acc : List Str} {k : Nat} {x : Option Blk} (h : OutW hp o acc) (hk : ∀ c n, o = .sl c 0 n 1 none → c ≠ k) : OutW (hp.put k x) o acc := by
  rcases h with h | ⟨c, h0, h1, h2⟩
  · exact .inl h
  · exact .inr ⟨c, h0, h1, at_else (hk c _ h1) h2⟩
end Go.Ab.Ch5


/-
  Own work: images: the reference's stretched image.
-/
namespace Go.Ab.Ch5
variable {M : Mach} {cap : Option Nat} {h : Heap} {b n : Nat}

def strL (t : Nat) (l : List Str) : List Str := l.flatMap fun s => List.replicate t s
theorem strL_take {t : Nat} {l : List Str} {i : Nat} (h : i < l.length) : strL t (l.take (i + 1)) = strL t (l.take i) ++ List.replicate t l[i]! := by
  rw [List.take_add_one, List.getElem?_eq_getElem h, strL, strL, List.flatMap_append, getElem!_pos l i h]
  simp
theorem strL_len (t : Nat) : ∀ l : List Str, (strL t l).length = l.length * t
  | [] => by simp [strL]
  | s :: l => by
    have := strL_len t l
    simp only [strL, List.flatMap_cons, List.length_append, List.length_replicate] at this ⊢
    rw [this, List.length_cons, Nat.add_mul]
    omega
theorem strL_lt {t : Nat} {l : List Str} {i : Nat} (hi : i < l.length) (hB : l.length * t < 1000000) : (strL t (l.take i)).length + t < 1000000 := by
  rw [strL_len, List.length_take, Nat.min_eq_left (by omega)]
  have : (i + 1) * t ≤ l.length * t := Nat.mul_le_mul_right _ (by omega)
  rw [Nat.add_mul] at this
  omega

/-! math/bits.Mul of one and a small number. -/
theorem u64_and {a : Int} (h : 0 ≤ a ∧ a < 4294967296) : (BitVec.ofInt 64 a &&& BitVec.ofInt 64 4294967295).toNat = a.toNat := by
  obtain ⟨k, rfl⟩ := Int.eq_ofNat_of_zero_le h.1
  rw [BitVec.toNat_and]
  have h1 : (BitVec.ofInt 64 (k : Int)).toNat = k := by
    rw [BitVec.ofInt_natCast, BitVec.toNat_ofNat]
    omega
  have h2 : (BitVec.ofInt 64 (4294967295 : Int)).toNat = 2 ^ 32 - 1 := by decide
  rw [h1, h2, Nat.and_two_pow_sub_one_eq_mod]
  simp
  omega
theorem WO.and32 {t : Nat} {x : IOpd} {l : List IOper} {pe : List AV} {lo : List (Nat × AV)} {hp : Heap} {df wr : List Nat} {a : Int} {Q : StW → Prop} (hx : (St.mk pe lo hp df).opd x = some (.int .u64 a)) (hr : 0 ≤ a ∧ a < 4294967296)
    (h : WO M l ⟨⟨pe, (t, .int .u64 a) :: lo, hp, df⟩, wr⟩ Q) : WO M (⟨.l t, .bin .and x (.c (.int .u64 4294967295)), none⟩ :: l) ⟨⟨pe, lo, hp, df⟩, wr⟩ Q := by
  refine WO.pl (v := .int .u64 a) ?_ rfl h
  have e : (St.mk pe lo hp df).opd (.c (.int .u64 4294967295)) = some (.int .u64 4294967295) := rfl
  have ha := u64_and hr
  have e2 : IntKind.u64.wrap ((BitVec.ofInt 64 a &&& BitVec.ofInt 64 4294967295).toNat : Int) = a := by
    rw [ha, u64_wrap (by omega)]
    omega
  simp only [pureA, hx, e, binA, if_true]
  exact congrArg (fun z => some (AV.int .u64 z)) e2
theorem WO.shr32 {t : Nat} {x : IOpd} {l : List IOper} {pe : List AV} {lo : List (Nat × AV)} {hp : Heap} {df wr : List Nat} {a : Int} {Q : StW → Prop} (hx : (St.mk pe lo hp df).opd x = some (.int .u64 a)) (hr : 0 ≤ a ∧ a < 4294967296)
    (h : WO M l ⟨⟨pe, (t, .int .u64 0) :: lo, hp, df⟩, wr⟩ Q) : WO M (⟨.l t, .bin .shr x (.c (.int .u64 32)), none⟩ :: l) ⟨⟨pe, lo, hp, df⟩, wr⟩ Q := by
  refine WO.pl (v := .int .u64 0) ?_ rfl h
  have e : (St.mk pe lo hp df).opd (.c (.int .u64 32)) = some (.int .u64 32) := rfl
  have : a.fdiv (2 ^ min (Int.toNat 32) IntKind.u64.bits) = 0 := by
    show a.fdiv 4294967296 = 0
    rw [Int.fdiv_eq_ediv_of_nonneg _ (by omega)]
    omega
  simp only [pureA, hx, e, binA, this]
  rfl
theorem WO.mulu {t : Nat} {x y : IOpd} {l : List IOper} {pe : List AV} {lo : List (Nat × AV)} {hp : Heap} {df wr : List Nat} {a b : Int} {Q : StW → Prop} (hx : (St.mk pe lo hp df).opd x = some (.int .u64 a)) (hy : (St.mk pe lo hp df).opd y = some (.int .u64 b)) (hr : 0 ≤ a * b ∧ a * b < 18446744073709551616)
    (h : WO M l ⟨⟨pe, (t, .int .u64 (a * b)) :: lo, hp, df⟩, wr⟩ Q) : WO M (⟨.l t, .bin .mul x y, none⟩ :: l) ⟨⟨pe, lo, hp, df⟩, wr⟩ Q :=
  WO.pl (v := .int .u64 (a * b)) (by simp only [pureA, hx, hy, binA, if_true, u64_wrap hr]) rfl h
theorem WO.addu {t : Nat} {x y : IOpd} {l : List IOper} {pe : List AV} {lo : List (Nat × AV)} {hp : Heap} {df wr : List Nat} {a b : Int} {Q : StW → Prop} (hx : (St.mk pe lo hp df).opd x = some (.int .u64 a)) (hy : (St.mk pe lo hp df).opd y = some (.int .u64 b)) (hr : 0 ≤ a + b ∧ a + b < 18446744073709551616)
    (h : WO M l ⟨⟨pe, (t, .int .u64 (a + b)) :: lo, hp, df⟩, wr⟩ Q) : WO M (⟨.l t, .bin .add x y, none⟩ :: l) ⟨⟨pe, lo, hp, df⟩, wr⟩ Q :=
  WO.pl (v := .int .u64 (a + b)) (by simp only [pureA, hx, hy, binA, if_true, u64_wrap hr]) rfl h
theorem w259 (hft : M.FT = FT) (t : Nat) (ht : t ≤ 4096) : Run M 259 [.int .u64 1, .int .u64 t] [] ⟨.tup [.int .u64 0, .int .u64 t], [], []⟩ := by
  refine run_of_W (by rw [hft]; exact ft259) (by simp) ?_
  unfold b259
  simp only [List.map_cons, List.map_nil, List.getElem?_cons_zero, List.getElem?_cons_succ, List.getElem?_nil, Option.getD_some, Option.getD_none]
  repeat' first | (apply WO.and32; exact rfl; omega) | (apply WO.shr32; exact rfl; omega) | (apply WO.mulu; exact rfl; exact rfl; omega) | (apply WO.addu; exact rfl; exact rfl; omega) | apply W.seq | apply SQn | apply W.region | apply WO.nil | apply W.ret | (apply WO.pl; exact rfl; exact rfl) | (apply WO.pp; exact rfl; exact rfl)
  exact ⟨.inr rfl, rfl, _, rfl, by simp [tupA], rfl⟩
theorem w203 (hft : M.FT = FT) (c259 : ∀ (t : Nat) h, t ≤ 4096 → M.ext 259 [.int .u64 1, .int .u64 t] h = some ⟨.tup [.int .u64 0, .int .u64 t], h, []⟩) (t : Nat) (ht : t ≤ 4096) : Run M 203 [.int .u64 1, .int .u64 t] [] ⟨.tup [.int .u64 0, .int .u64 t], [], []⟩ := by
  refine run_of_W (by rw [hft]; exact ft203) (by simp) ?_
  unfold b203
  simp only [List.map_cons, List.map_nil, List.getElem?_cons_zero, List.getElem?_cons_succ, List.getElem?_nil, Option.getD_some, Option.getD_none]
  repeat' first | apply W.seq | apply SQn | apply W.region | apply WO.nil | apply W.ret | apply W.skip | (apply W.condF; exact rfl) | (apply WO.cll; exact rfl; exact rfl; first | exact c259 t _ ht) | (apply WO.pl; exact rfl; exact rfl) | (apply WO.pp; exact rfl; exact rfl)
  exact ⟨.inr rfl, rfl, _, rfl, rfl, rfl⟩
end Go.Ab.Ch5


/-
  Own work: images: slices.Repeat of one text.
-/
namespace Go.Ab.Ch5
variable {M : Mach} {cap : Option Nat} {h : Heap} {b n : Nat}

theorem strs_map (l : List Str) : strs l = l.map AV.str := by
  simp only [strs, arr]
  induction l with
  | nil => rfl
  | cons y l ih => simp only [List.flatMap_cons, List.map_cons, ih]; rfl
theorem strs_take (l : List Str) (n : Nat) : (strs l).take n = strs (l.take n) := by rw [strs_map, strs_map, List.map_take]
theorem strs_drop (l : List Str) (n : Nat) : (strs l).drop n = strs (l.drop n) := by rw [strs_map, strs_map, List.map_drop]
theorem copy_keep {T : List Nat} {hp : Heap} {s : St} {esz b off len e : Nat} {cap : Option Nat} {x y : IOpd} {yv : AV} (ha : s.opd x = some (.sl b off len e cap)) (hb : s.opd y = some yv) (hbT : b ∈ T) (hy : ∀ c, c ∈ blkOf (some yv) → c ∈ T) {r : HR} (hr : heapA s (.copy esz x y) hp = some r) :
    ∃ h', heapA s (.copy esz x y) (keep T hp 0) = some ⟨r.v, h', r.wr⟩ ∧ mergeW r.wr hp h' 0 = r.h ∧ ((r.wr.all fun c => ((keep T hp 0).at c).isSome) = true) ∧ r.wr = [b] := by
  have hk : (keep T hp 0).at b = hp.at b := by rw [keep_at', if_pos (by simpa using hbT)]
  simp only [heapA, ha, hb] at hr ⊢
  rw [slice_keep hy]
  split at hr
  · rename_i src n hs
    split at hr
    · rename_i hc
      split at hr
      · rename_i l el hat
        split at hr
        · rename_i hin
          cases hr
          refine ⟨Heap.put (keep T hp 0) b (some (.cells (overwrite l off (src.take (min n len * esz))) el)), ?_, merge_keep_put', by simp [hk, hat], rfl⟩
          simp only [if_pos hc, hk, hat, if_pos hin]
        · cases hr
      · cases hr
    · cases hr
  · cases hr
theorem WD.cpy {d : Dst} {esz : Nat} {x y : IOpd} {un : List Nat} {l : List (IOper × List Nat)} {s : StW} {ds : List Done} {b off len e : Nat} {cap : Option Nat} {yv : AV} {Q : StW → Prop} (ha : s.s.opd x = some (.sl b off len e cap)) (hb : s.s.opd y = some yv)
    (hd : disj ([b] ++ blkOf (some yv)) (un.flatMap fun j => (ds[j]?).elim [] Done.own) = true) (hu : un.all (fun j => match ds[j]? with | some d => (match d.touch with | some T => disj [b] T | none => false) | none => false) = true)
    (h : ∀ dn, WO M [⟨d, .copy esz x y, none⟩] s fun s' => WD M l s' (ds ++ [dn]) Q) : WD M ((⟨d, .copy esz x y, none⟩, un) :: l) s ds Q := by
  have ox : ∀ h0, (St.mk s.s.pe s.s.lo h0 s.s.dfs).opd x = some (.sl b off len e cap) := fun h0 => by rw [← ha]; cases x <;> rfl
  have oy : ∀ h0, (St.mk s.s.pe s.s.lo h0 s.s.dfs).opd y = some yv := fun h0 => by rw [← hb]; cases y <;> rfl
  have keyn : ∀ n h0, opA (M.call n) M.inv { s.s with hp := h0 } (.copy esz x y) = heapA s.s (.copy esz x y) h0 := fun n h0 => by
    simp only [opA, IOp.heapy, if_true, heapA, ox, oy, ha, hb]
  cases hq : heapA s.s (.copy esz x y) s.s.hp with
  | none =>
    obtain ⟨⟨k, s1, h1, _⟩⟩ := h ⟨none, [], 0, 0⟩
    simp only [opersA, wantedA] at h1
    rw [show opA (M.call k) M.inv s.s (.copy esz x y) = none from (keyn k s.s.hp).trans hq] at h1
    cases h1
  | some r =>
    obtain ⟨h', e1, e2, e3, e4⟩ := copy_keep (T := [b] ++ blkOf (some yv)) ha hb (by simp) (fun c hc => List.mem_append_right _ hc) hq
    obtain ⟨⟨k, s1, h1, ⟨⟨m, s', h2, h3⟩⟩⟩⟩ := h ⟨some ([b] ++ blkOf (some yv)), r.wr, s.s.hp.length, h'.length⟩
    refine ⟨⟨m, s', ?_, h3⟩⟩
    simp only [opersA, wantedA] at h1
    rw [show opA (M.call k) M.inv s.s (.copy esz x y) = some r from (keyn k s.s.hp).trans hq] at h1
    simp only [Option.some.injEq] at h1
    have ht : touchA s.s (.copy esz x y) = some ([b] ++ blkOf (some yv)) := by
      simp only [touchA, ha, hb]
      congr 1
    simp only [drawA, wantedA, IOp.heapy, if_true, ht, hd]
    rw [show opA (M.call m) M.inv { s.s with hp := keep ([b] ++ blkOf (some yv)) s.s.hp 0 } (.copy esz x y) = some ⟨r.v, h', r.wr⟩ from (keyn m _).trans e1]
    simp only
    rw [← h1] at h2
    rw [if_pos (by rw [Bool.and_eq_true]; exact ⟨e3, by rw [e4]; exact hu⟩), e2]
    exact h2
theorem WO.cps {t b off len : Nat} {cap : Option Nat} {x y : IOpd} {l : List IOper} {pe : List AV} {lo : List (Nat × AV)} {hp : Heap} {df wr : List Nat} {A src : List Str} {yv : AV} {Q : StW → Prop} (hx : (St.mk pe lo hp df).opd x = some (.sl b off len 1 cap)) (hy : (St.mk pe lo hp df).opd y = some yv) (hs : sliceCells hp yv = some (strs src, src.length))
    (hb : hp.at b = some (.cells (strs A) 9)) (hin : off + min src.length len ≤ A.length) (h : WO M l ⟨⟨pe, (t, .int .i64 ((min src.length len : Nat) : Int)) :: lo, hp.put b (some (.cells (strs (A.take off ++ src.take (min src.length len) ++ A.drop (off + min src.length len))) 9)), df⟩, b :: wr⟩ Q) : WO M (⟨.l t, .copy 1 x y, none⟩ :: l) ⟨⟨pe, lo, hp, df⟩, wr⟩ Q := by
  refine WO.hlv (v := .int .i64 ((min src.length len : Nat) : Int)) (h' := hp.put b (some (.cells (strs (A.take off ++ src.take (min src.length len) ++ A.drop (off + min src.length len))) 9))) (w' := [b]) ?_ rfl rfl h
  have ho : overwrite (strs A) off ((strs src).take (min src.length len * 1)) = strs (A.take off ++ src.take (min src.length len) ++ A.drop (off + min src.length len)) := by
    rw [Nat.mul_one, overwrite, strs_take, strs_take, strs_drop, strs_len, strs_append, strs_append, List.length_take]
    rw [show min (min src.length len) src.length = min src.length len by omega]
  simp only [heapA, hx, hy, hs, hb]
  rw [if_pos ⟨trivial, by rw [strs_len, Nat.mul_one], strs_one src⟩, if_pos (by rw [strs_len]; omega), ho]
theorem rz_strs : ∀ n : Nat, repeatZero [AV.str []] n = strs (List.replicate n [])
  | 0 => rfl
  | n + 1 => by
    rw [repeatZero, rz_strs n, List.replicate_succ]
    rfl
theorem WO.mkS {t : Nat} {x : IOpd} {l : List IOper} {pe : List AV} {lo : List (Nat × AV)} {hp : Heap} {df wr : List Nat} {k : Nat} {Q : StW → Prop} (hx : (St.mk pe lo hp df).opd x = some (.int .i64 k)) (hk : k ≤ 4096)
    (h : WO M l ⟨⟨pe, (t, .sl hp.length 0 k 1 (some k)) :: lo, hp ++ [some (.cells (strs (List.replicate k [])) 9)], df⟩, wr⟩ Q) : WO M (⟨.l t, .mkslice 9 1 16 [.str []] x x, none⟩ :: l) ⟨⟨pe, lo, hp, df⟩, wr⟩ Q := by
  refine WO.mks hx hx ⟨by omega, Int.le_refl _, by unfold roomLimit; omega, by omega, rfl⟩ ?_
  rw [Int.toNat_natCast, rz_strs]
  exact h
theorem WO.sls {t b o len c : Nat} {x y : IOpd} {l : List IOper} {pe : List AV} {lo : List (Nat × AV)} {hp : Heap} {df wr : List Nat} {k : Nat} {Q : StW → Prop} (hx : (St.mk pe lo hp df).opd x = some (.sl b o len 1 (some c))) (hy : (St.mk pe lo hp df).opd y = some (.int .i64 k)) (hn : k < len)
    (h : WO M l ⟨⟨pe, (t, .sl b (o + k) (len - k) 1 (some (c - k))) :: lo, hp, df⟩, wr⟩ Q) : WO M (⟨.l t, .slice .sl 1 x (some y) none none, none⟩ :: l) ⟨⟨pe, lo, hp, df⟩, wr⟩ Q := by
  refine WO.pl (v := .sl b (o + k) (len - k) 1 (some (c - k))) ?_ rfl h
  have h1 : (0 : Int) ≤ (k : Int) ∧ (k : Int) ≤ len := ⟨by omega, by omega⟩
  simp only [pureA, hx, St.oopd, hy, Option.map_some, sliceA, boundA]
  simp [h1, hn]
theorem WO.slq {t b o len c : Nat} {x y : IOpd} {l : List IOper} {pe : List AV} {lo : List (Nat × AV)} {hp : Heap} {df wr : List Nat} {k : Nat} {Q : StW → Prop} (hx : (St.mk pe lo hp df).opd x = some (.sl b o len 1 (some c))) (hy : (St.mk pe lo hp df).opd y = some (.int .i64 k)) (hn : 0 < k ∧ k ≤ c)
    (h : WO M l ⟨⟨pe, (t, .sl b o k 1 (some c)) :: lo, hp, df⟩, wr⟩ Q) : WO M (⟨.l t, .slice .sl 1 x none (some y) none, none⟩ :: l) ⟨⟨pe, lo, hp, df⟩, wr⟩ Q := by
  refine WO.pl (v := .sl b o k 1 (some c)) ?_ rfl h
  have h1 : (0 : Int) ≤ (k : Int) ∧ (k : Int) ≤ c := ⟨by omega, by omega⟩
  simp only [pureA, hx, St.oopd, hy, Option.map_some, sliceA, boundA, Option.getD_some]
  simp [h1, hn.1]

/-! Repeat. -/
def half (t k : Nat) (s : Str) : List Str := List.replicate k s ++ List.replicate (t - k) []
theorem half_len {t k : Nat} {s : Str} (hk : k ≤ t) : (half t k s).length = t := by simp [half]; omega
theorem half_step {t k m : Nat} {s : Str} (hm : m ≤ k) (hk : k + m ≤ t) : (half t k s).take k ++ (List.replicate k s).take m ++ (half t k s).drop (k + m) = half t (k + m) s := by
  unfold half
  rw [List.take_append_of_le_length (by simp), List.take_of_length_le (by simp), List.take_replicate, Nat.min_eq_left hm, List.drop_append, List.drop_of_length_le (by simp), List.nil_append, List.drop_replicate, List.replicate_append_replicate]
  congr 2
  simp
  omega
theorem half_cells {t k : Nat} {s : Str} {b c : Nat} {H : Heap} (hb : H.at b = some (.cells (strs (half t k s)) 9)) : sliceCells H (.sl b 0 k 1 (some c)) = some (strs (List.replicate k s), (List.replicate k s).length) := by
  have e : cut (strs (half t k s)) 0 (k * 1) = some (strs (List.replicate k s)) := by
    rw [Nat.mul_one]
    have h1 : ((strs (half t k s)).drop 0).take k = strs (List.replicate k s) := by
      rw [List.drop_zero, strs_take, half, List.take_append_of_le_length (by simp), List.take_of_length_le (by simp)]
    unfold cut
    rw [h1]
    rw [if_pos (by rw [strs_len]; simp)]
  simp only [sliceCells, hb, e, Option.map_some, List.length_replicate]
theorem loop150 (t : Nat) (ht : t ≤ 4096) (s : Str) (a0 a3 a4 : AV) {Q : Ex → StW → Prop} (hQ : ∀ lo wr, Q (.exit 0) ⟨⟨[a0, .int .i64 t, .nilsl, a3, a4, .sl 0 0 t 1 (some t), .int .i64 t], lo, [some (.cells (strs (List.replicate t s)) 9)], []⟩, wr⟩) : ∀ (r k : Nat), t - k ≤ r → 0 < k → k ≤ t → ∀ (lo : List (Nat × AV)) (wr : List Nat),
    W M (.loop b150_0) ⟨⟨[a0, .int .i64 t, .nilsl, a3, a4, .sl 0 0 t 1 (some t), .int .i64 k], lo, [some (.cells (strs (half t k s)) 9)], []⟩, wr⟩ Q := by
  intro r
  induction r with
  | zero =>
    intro k hr h0 hk lo wr
    obtain rfl : k = t := by omega
    have e : half k k s = List.replicate k s := by simp [half]
    rw [e]
    refine W.loop ?_
    unfold b150_0
    repeat' first | apply W.seq | apply SQn | apply W.region | apply WO.nil | apply W.exit | apply SQe | apply LQe | (apply W.condF; exact rfl) | (apply WO.lss; exact rfl; exact rfl; all_goals first | (intro _; exfalso; omega) | intro _) | (apply WO.pl; exact rfl; exact rfl)
    exact hQ _ _
  | succ r ih =>
    intro k hr h0 hk lo wr
    by_cases hkt : k = t
    · subst hkt
      have e : half k k s = List.replicate k s := by simp [half]
      rw [e]
      refine W.loop ?_
      unfold b150_0
      repeat' first | apply W.seq | apply SQn | apply W.region | apply WO.nil | apply W.exit | apply SQe | apply LQe | (apply W.condF; exact rfl) | (apply WO.lss; exact rfl; exact rfl; all_goals first | (intro _; exfalso; omega) | intro _) | (apply WO.pl; exact rfl; exact rfl)
      exact hQ _ _
    · have hlt : k < t := by omega
      have hb : Heap.at [some (Blk.cells (strs (half t k s)) 9)] 0 = some (.cells (strs (half t k s)) 9) := rfl
      have hcell := half_cells (c := t) hb
      refine W.loop ?_
      unfold b150_0
      repeat' first | (apply WO.sls; exact rfl; exact rfl; exact hlt) | (apply WO.slq; exact rfl; exact rfl; exact ⟨h0, hk⟩) | (apply WD.cpy; exact rfl; exact rfl; exact rfl; exact rfl; intro _) | (apply WO.cps; exact rfl; exact rfl; exact hcell; exact hb; rw [half_len hk]; simp; omega) | apply W.seq | apply SQn | apply W.region | apply WO.nil | apply W.block | apply W.skip | apply BQn | apply W.draw | apply WD.nil | (apply WD.pure1; exact rfl) | (apply W.condT; exact rfl) | (apply WO.lss; exact rfl; exact rfl; all_goals first | (intro _; exfalso; omega) | intro _) | (apply WO.add; exact rfl; exact rfl; omega) | (apply WO.pl; exact rfl; exact rfl) | (apply WO.pp; exact rfl; exact rfl)
      have e' : (half t k s).take (0 + k) ++ (List.replicate k s).take (min (List.replicate k s).length (t - k)) ++ (half t k s).drop (0 + k + min (List.replicate k s).length (t - k)) = half t (k + min k (t - k)) s := by
        rw [Nat.zero_add, List.length_replicate]
        exact half_step (by omega) (by omega)
      rw [e', List.length_replicate]
      have := ih (k + min k (t - k)) (by omega) (by omega) (by omega)
      refine LQn ?_
      rw [show (k : Int) + ((min k (t - k) : Nat) : Int) = ((k + min k (t - k) : Nat) : Int) by omega]
      exact this _ _
theorem w150 (hft : M.FT = FT) (c203 : ∀ (t : Nat) h, t ≤ 4096 → M.ext 203 [.int .u64 1, .int .u64 t] h = some ⟨.tup [.int .u64 0, .int .u64 t], h, []⟩) (s : Str) (t : Nat) (h1 : 1 ≤ t) (ht : t ≤ 4096) : Run M 150 [.vs (strs [s]) 1 cap, .int .i64 t] [] ⟨.sl 0 0 t 1 (some t), [some (.cells (strs (List.replicate t s)) 9)], []⟩ := by
  have hs : ∀ h, sliceCells h (.vs (strs [s]) 1 cap) = some (strs [s], ([s] : List Str).length) := fun _ => rfl
  have e1 : (List.replicate t ([] : Str)).take 0 ++ ([s] : List Str).take (min ([s] : List Str).length t) ++ (List.replicate t ([] : Str)).drop (0 + min ([s] : List Str).length t) = half t 1 s := by
    rw [show min ([s] : List Str).length t = 1 by simp; omega]
    simp [half]
  refine run_of_W (by rw [hft]; exact ft150) (by simp) ?_
  unfold b150
  simp only [List.map_cons, List.map_nil, List.getElem?_cons_zero, List.getElem?_cons_succ, List.getElem?_nil, Option.getD_some, Option.getD_none]
  repeat' first | (apply WO.mkS; exact rfl; exact ht) | (apply WO.cps; exact rfl; exact rfl; exact hs _; exact rfl; simp; omega) | apply W.seq | apply SQn | apply W.region | apply WO.nil | apply W.block | apply W.skip | (apply W.condF; exact rfl) | (apply WO.gF; exact rfl) | (apply WO.lss; exact rfl; exact rfl; all_goals first | (intro _; exfalso; omega) | intro _) | (apply WO.gtr; exact rfl; exact rfl; all_goals first | (intro _; exfalso; omega) | intro _) | (apply WO.cvu; exact rfl; omega) | (apply WO.cvi; exact rfl; omega) | (apply WO.pkF; exact rfl; exact rfl) | (apply WO.cll; exact rfl; exact rfl; first | exact c203 t _ ht) | (apply WO.pl; exact rfl; exact rfl) | (apply WO.pp; exact rfl; exact rfl)
  rw [e1]
  rw [show (((min ([s] : List Str).length t : Nat) : Int)) = ((1 : Nat) : Int) by simp; omega]
  refine loop150 t ht s _ _ _ (fun lo wr => ?_) t 1 (by omega) (by omega) h1 _ _
  repeat' first | apply W.seq | apply SQn | apply W.region | apply WO.nil | apply W.ret | apply BQe | (apply WO.pl; exact rfl; exact rfl) | (apply WO.pp; exact rfl; exact rfl)
  exact ⟨.inr rfl, rfl, _, rfl, rfl, rfl⟩
end Go.Ab.Ch5


/-
  Own work: images: Stretched; the same lists, the same images.
-/
namespace Go.Ab.Ch5
variable {M : Mach} {cap : Option Nat} {h : Heap} {b n : Nat}

theorem OutW.pushs {t : Nat} {X : List Str} {l : List IOper} {pe : List AV} {lo : List (Nat × AV)} {K : Heap} {df wr : List Nat} {a b : IOpd} {o bv : AV} {acc : List Str} {Q : StW → Prop} (h : OutW K o acc) (ha : (St.mk pe lo K df).opd a = some o) (hb : (St.mk pe lo K df).opd b = some bv) (hs : sliceCells K bv = some (strs X, X.length)) (hX : 0 < X.length)
    (hn : acc.length + X.length < 1000000) (hQ : ∀ (H : Heap) (w' : List Nat) o', OutW H o' (acc ++ X) → (∀ k blk, (∀ c n, o = .sl c 0 n 1 none → k ≠ c) → K.at k = some blk → H.at k = some blk) → (∀ c n, o' = .sl c 0 n 1 none → K.length ≤ c) → K.length ≤ H.length → WO M l ⟨⟨pe, (t, o') :: lo, H, df⟩, w'⟩ Q) : WO M (⟨.l t, .append 9 1 16 a b, none⟩ :: l) ⟨⟨pe, lo, K, df⟩, wr⟩ Q := by
  have hc : (strs X).length = X.length * 1 ∧ 0 < 16 ∧ (strs X).all oneA = true := ⟨by rw [strs_len, Nat.mul_one], by decide, strs_one X⟩
  have hne : acc ++ X ≠ [] := fun e => by
    simp at e
    simp [e.2] at hX
  rcases h with ⟨rfl, rfl⟩ | ⟨c, _, rfl, hat⟩
  · refine WO.apn ha hb hs hc ⟨hX, by unfold roomLimit; simp at hn; omega⟩ (hQ _ _ _ (.inr ⟨K.length, hne, by simp, by rw [List.nil_append]; exact at_new⟩) (fun k blk _ hk => at_old hk) (fun c n hc => by cases hc; exact Nat.le_refl _) (by simp))
  · refine WO.apo ha hb hs hc ⟨hX, by unfold roomLimit; omega⟩ hat (by rw [strs_len]; omega) (hQ _ _ _ (.inr ⟨K.length, hne, by simp, ?_⟩) (fun k blk hk hb => at_old (at_else (hk c _ rfl) hb)) (fun c n hc => by cases hc; exact Nat.le_refl _) (by simp [put_length]))
    have e : (K.put c none).length = K.length := put_length
    rw [strs_append, List.drop_zero, ← e]
    exact at_new

/-! Stretched. -/
def strE (rows : Int) (l : List Str) (times : Int) : Int := if imgE rows l ≠ 0 then imgE rows l else if outI times 1 4096 then 3 else if (l.length : Int) * times > 4096 then 5 else 0
theorem WO.mulx {t : Nat} {x y : IOpd} {l : List IOper} {pe : List AV} {lo : List (Nat × AV)} {hp : Heap} {df wr : List Nat} {a b : Int} {Q : StW → Prop} (hx : (St.mk pe lo hp df).opd x = some (.int .i64 a)) (hy : (St.mk pe lo hp df).opd y = some (.int .i64 b))
    (h : ∀ r, WO M l ⟨⟨pe, (t, .int .i64 r) :: lo, hp, df⟩, wr⟩ Q) : WO M (⟨.l t, .bin .mul x y, none⟩ :: l) ⟨⟨pe, lo, hp, df⟩, wr⟩ Q :=
  WO.pl (v := .int .i64 (IntKind.i64.wrap (a * b))) (by simp only [pureA, hx, hy, binA, if_true]) rfl (h _)
structure C66 (M : Mach) : Prop where
  ft : M.FT = FT
  c91 : ∀ t e h, M.ext 91 [.bool t, .int .i64 e] h = some ⟨.int .i64 (if t then e else 0), h, []⟩
  c121 : ∀ x lo hi h, M.ext 121 [.int .i64 x, .int .i64 lo, .int .i64 hi] h = some ⟨.int .i64 (if outI x lo hi then 3 else 0), h, []⟩
  c90 : ∀ v l h, intsAt h v = some l → l.length < 4611686018427387904 → M.ext 90 [v] h = some ⟨.int .i64 (firstNZ l), h, []⟩
  c70 : ∀ rows (l : List Str) cap h, (∀ s ∈ l, s.length < 4611686018427387904) → l.length < 1000000 → M.ext 70 [.agg [.int .i64 rows, .vs (strs l) l.length cap]] h = some ⟨.int .i64 (imgE rows l), h, []⟩
  c150 : ∀ H (s : Str) (t : Nat), 1 ≤ t → t ≤ 4096 → M.ext 150 [.sl H.length 0 1 1 (some 1), .int .i64 t] (H ++ [some (.cells [.str s] 9)]) = some ⟨.sl (H ++ [some (Blk.cells [.str s] 9)]).length 0 t 1 (some t), (H ++ [some (.cells [.str s] 9)]) ++ [some (.cells (strs (List.replicate t s)) 9)], []⟩
theorem C66.q3 (C : C66 M) (H : Heap) (a b c : Int) : M.ext 90 [.sl H.length 0 3 1 (some 3)] (H ++ [some (.cells [.int .i64 a, .int .i64 b, .int .i64 c] 28)]) = some ⟨.int .i64 (firstNZ [a, b, c]), H ++ [some (.cells [.int .i64 a, .int .i64 b, .int .i64 c] 28)], []⟩ := by
  have e : Heap.at (H ++ [some (.cells [.int .i64 a, .int .i64 b, .int .i64 c] 28)]) H.length = some (.cells (ints [a, b, c]) 28) := at_new
  exact C.c90 _ [a, b, c] _ (ints_at' e rfl) (by simp)
theorem imgE_small {rows : Int} {l : List Str} (hE : imgE rows l = 0) : l.length ≤ 4096 := by
  unfold imgE at hE
  split at hE
  · rename_i h; exact absurd hE h
  · rename_i h
    have h := Decidable.not_not.1 h
    unfold headE at h
    split at h
    · exact absurd h (by decide)
    · split at h
      · exact absurd h (by decide)
      · split at h
        · exact absurd h (by decide)
        · omega
theorem w66e (C : C66 M) (rows : Int) (l : List Str) (times : Int) (hL : ∀ s ∈ l, s.length < 4611686018427387904) (hl : l.length < 1000000) (hE : strE rows l times ≠ 0) : Run M 66 [.agg [.int .i64 rows, .vs (strs l) l.length cap], .int .i64 times] [] ⟨.tup [.agg [.int .i64 0, .nilsl], .int .i64 (strE rows l times)], [], []⟩ := by
  have q70 := fun h => C.c70 rows l cap h hL hl
  have q := fun T : Bool => C.q3 [some (.cells [.int .i64 rows, .vs (strs l) l.length cap] 24), some (.cells [.int .i64 0, .nilsl] 24)] (imgE rows l) (if outI times 1 4096 = true then 3 else 0) (if T = true then 5 else 0)
  refine run_of_W (by rw [C.ft]; exact ft66) (by simp) ?_
  unfold b66
  simp only [List.map_cons, List.map_nil, List.getElem?_cons_zero, List.getElem?_cons_succ, List.getElem?_nil, Option.getD_some, Option.getD_none]
  by_cases hI : imgE rows l = 0
  · cases ho : outI times 1 4096
    · rw [ho] at q
      rw [hI] at q q70
      have h1 : 1 ≤ times ∧ times ≤ 4096 := by simp [outI] at ho; omega
      have hs := imgE_small hI
      have hE' : (l.length : Int) * times > 4096 ∧ strE rows l times = 5 := by
        unfold strE at hE ⊢
        rw [if_neg (fun h => h hI), ho] at hE ⊢
        simp only [Bool.false_eq_true, if_false] at hE ⊢
        by_cases hc : (l.length : Int) * times > 4096
        · exact ⟨hc, if_pos hc⟩
        · rw [if_neg hc] at hE; exact absurd rfl hE
      rw [hE'.2]
      have hm : (l.length : Int) * times ≤ 4096 * 4096 := Int.mul_le_mul (by omega) h1.2 (by omega) (by omega)
      have hg := hE'.1
      have q5 := q true
      have ev : firstNZ [0, if false = true then 3 else 0, if true = true then 5 else 0] = 5 := rfl
      rw [ev] at q5
      have q121 := fun h => C.c121 times 1 4096 h
      rw [ho] at q121
      repeat' first | apply W.seq | apply SQn | apply W.region | apply WO.nil | apply W.ret | apply SQr | apply W.draw | apply WD.nil | (apply WD.pure1; exact rfl) | (apply WD.load1; exact rfl; exact rfl; exact rfl) | (apply WD.new1; exact rfl) | (apply W.condT; exact rfl) | (apply WO.gtr; exact rfl; exact rfl; all_goals first | (intro _; exfalso; omega) | intro _) | (apply WO.neq; exact rfl; exact rfl; all_goals first | (intro _; exfalso; omega) | intro _) | (apply WO.mul; exact rfl; exact rfl; omega) | (apply WD.cl0; exact rfl; exact rfl; exact rfl; first | exact q70 _ | exact C.c91 _ _ _ | exact q121 _ | exact q5) | (apply WO.hlv; exact rfl; exact rfl; exact rfl) | (apply WO.hpv; exact rfl; exact rfl; exact rfl) | (apply WO.hnv; exact rfl; exact rfl; exact rfl) | (apply WO.pl; exact rfl; exact rfl) | (apply WO.pp; exact rfl; exact rfl)
      exact ⟨.inr rfl, rfl, _, rfl, rfl, rfl⟩
    · have hE' : strE rows l times = 3 := by rw [strE, if_neg (fun h => h hI), ho]; rfl
      rw [hE']
      rw [hI, ho] at q
      rw [hI] at q70
      have q3 : ∀ T : Bool, M.ext 90 _ _ = _ := fun T => (q T).trans (by rw [show firstNZ [0, if true = true then 3 else 0, if T = true then 5 else 0] = 3 from rfl])
      have q121 := fun h => C.c121 times 1 4096 h
      rw [ho] at q121
      repeat' first | (apply WO.mulx; exact rfl; exact rfl; intro _) | apply W.seq | apply SQn | apply W.region | apply WO.nil | apply W.ret | apply SQr | apply W.draw | apply WD.nil | (apply WD.pure1; exact rfl) | (apply WD.load1; exact rfl; exact rfl; exact rfl) | (apply WD.new1; exact rfl) | (apply W.condT; exact rfl) | (apply WO.gtr; exact rfl; exact rfl; all_goals first | (intro _; exfalso; omega) | intro _) | (apply WO.neq; exact rfl; exact rfl; all_goals first | (intro _; exfalso; omega) | intro _) | (apply WD.cl0; exact rfl; exact rfl; exact rfl; first | exact q70 _ | exact C.c91 _ _ _ | exact q121 _ | exact q3 _) | (apply WO.hlv; exact rfl; exact rfl; exact rfl) | (apply WO.hpv; exact rfl; exact rfl; exact rfl) | (apply WO.hnv; exact rfl; exact rfl; exact rfl) | (apply WO.pl; exact rfl; exact rfl) | (apply WO.pp; exact rfl; exact rfl)
      all_goals exact ⟨.inr rfl, rfl, _, rfl, rfl, rfl⟩
  · have hE' : strE rows l times = imgE rows l := by rw [strE, if_pos hI]
    rw [hE']
    have q3 : ∀ T : Bool, M.ext 90 _ _ = _ := fun T => (q T).trans (by rw [show firstNZ [imgE rows l, if outI times 1 4096 = true then 3 else 0, if T = true then 5 else 0] = imgE rows l by rw [firstNZ, if_neg hI]])
    repeat' first | (apply WO.mulx; exact rfl; exact rfl; intro _) | apply W.seq | apply SQn | apply W.region | apply WO.nil | apply W.ret | apply SQr | apply W.draw | apply WD.nil | (apply WD.pure1; exact rfl) | (apply WD.load1; exact rfl; exact rfl; exact rfl) | (apply WD.new1; exact rfl) | (apply W.condT; exact rfl) | (apply WO.gtr; exact rfl; exact rfl; all_goals first | (intro _; exfalso; omega) | intro _) | (apply WO.neq; exact rfl; exact rfl; all_goals first | (intro _; exfalso; omega) | intro _) | (apply WD.cl0; exact rfl; exact rfl; exact rfl; first | exact q70 _ | exact C.c91 _ _ _ | exact C.c121 _ _ _ _ | exact q3 _) | (apply WO.hlv; exact rfl; exact rfl; exact rfl) | (apply WO.hpv; exact rfl; exact rfl; exact rfl) | (apply WO.hnv; exact rfl; exact rfl; exact rfl) | (apply WO.pl; exact rfl; exact rfl) | (apply WO.pp; exact rfl; exact rfl)
    all_goals exact ⟨.inr rfl, rfl, _, rfl, rfl, rfl⟩
end Go.Ab.Ch5


/-
  Own work: images: Stretched of good images; the same lists, the same images.
-/
namespace Go.Ab.Ch5
variable {M : Mach} {cap : Option Nat} {h : Heap} {b n : Nat}

theorem full_cells {X : List Str} {b n : Nat} {c : Option Nat} {H : Heap} (hb : H.at b = some (.cells (strs X) 9)) (hn : X.length = n) : sliceCells H (.sl b 0 n 1 c) = some (strs X, X.length) := by
  subst hn
  have e : cut (strs X) 0 (X.length * 1) = some (strs X) := by
    rw [Nat.mul_one]
    have h1 : ((strs X).drop 0).take X.length = strs X := by rw [List.drop_zero, strs_take, List.take_length]
    unfold cut
    rw [h1, if_pos (by rw [strs_len])]
  simp only [sliceCells, hb, e, Option.map_some]
theorem outw_end4 {hp : Heap} {o : AV} {acc : List Str} {rows : Int} (h : OutW hp o acc) : OutW (if (AV.tup [.agg [.int .i64 rows, o], .int .i64 0]).top ≤ 0 then [] else hp) o acc := by
  rcases h with ⟨h1, rfl⟩ | ⟨c, h0, rfl, h2⟩
  · exact .inl ⟨h1, rfl⟩
  · refine .inr ⟨c, h0, rfl, ?_⟩
    rw [if_neg (by simp [AV.top, topL])]
    exact h2
theorem loop66 (C : C66 M) (rows : Int) (t : Nat) (h1 : 1 ≤ t) (ht : t ≤ 4096) (l : List Str) (hl : l.length < 1000000) (hB : l.length * t < 1000000) (a0 a4 a5 : AV) {Q : Ex → StW → Prop} : ∀ (r i : Nat), i + r = l.length → ∀ (o a7 : AV) (acc : List Str) (hp : Heap) (lo : List (Nat × AV)) (wr : List Nat), acc = strL t (l.take i) → OutW hp o acc → hp.at 0 = some (.cells [.int .i64 rows, .vs (strs l) l.length cap] 24) → hp.at 1 = some (.cells [.int .i64 0, .nilsl] 24) → (∀ c n, o = .sl c 0 n 1 none → 2 ≤ c) → 2 ≤ hp.length →
    (∀ o a7 hp lo wr, OutW hp o (strL t l) → hp.at 0 = some (.cells [.int .i64 rows, .vs (strs l) l.length cap] 24) → hp.at 1 = some (.cells [.int .i64 0, .nilsl] 24) → (∀ c n, o = .sl c 0 n 1 none → 2 ≤ c) → Q (.exit 0) ⟨⟨[a0, .int .i64 t, .ptr 0 0, .ptr 1 0, a4, a5, o, a7, .vs (strs l) l.length cap, .int .i64 l.length, .int .i64 l.length], lo, hp, []⟩, wr⟩) →
    W M (.loop b66_0) ⟨⟨[a0, .int .i64 t, .ptr 0 0, .ptr 1 0, a4, a5, o, a7, .vs (strs l) l.length cap, .int .i64 l.length, .int .i64 i], lo, hp, []⟩, wr⟩ Q := by
  intro r
  induction r with
  | zero =>
    intro i hi o a7 acc hp lo wr hacc ho g0 g1 hne hlen hQ
    obtain rfl : i = l.length := by omega
    rw [List.take_length] at hacc
    subst hacc
    refine W.loop ?_
    unfold b66_0
    repeat' first | apply W.seq | apply SQn | apply W.region | apply WO.nil | apply W.exit | apply SQe | apply LQe | (apply W.condF; exact rfl) | (apply WO.lss; exact rfl; exact rfl; all_goals first | (intro _; exfalso; omega) | intro _)
    exact hQ _ _ _ _ _ ho g0 g1 hne
  | succ r ih =>
    intro i hi o a7 acc hp lo wr hacc ho g0 g1 hne hlen hQ
    have f1 : ((i : Int)).toNat = i := Int.toNat_natCast i
    have q150 := C.c150 hp l[((i : Int)).toNat]! t h1 ht
    have hs : sliceCells ((hp ++ [some (Blk.cells [.str l[((i : Int)).toNat]!] 9)]) ++ [some (.cells (strs (List.replicate t l[((i : Int)).toNat]!)) 9)]) (.sl (hp ++ [some (Blk.cells [.str l[((i : Int)).toNat]!] 9)]).length 0 t 1 (some t)) = some (strs (List.replicate t l[((i : Int)).toNat]!), (List.replicate t l[((i : Int)).toNat]!).length) := full_cells at_new (by simp)
    have hb := strL_lt (t := t) (l := l) (i := i) (by omega) hB
    rw [← hacc] at hb
    refine W.loop ?_
    unfold b66_0
    repeat' first | apply W.seq | apply SQn | apply W.region | apply WO.nil | apply W.block | apply W.skip | apply BQn | (apply W.condT; exact rfl) | (apply WO.lss; exact rfl; exact rfl; all_goals first | (intro _; exfalso; omega) | intro _) | (apply WO.add; exact rfl; exact rfl; omega) | (apply WO.cll; exact rfl; exact rfl; first | exact q150) | (refine OutW.pushs (ho.old.old) rfl rfl hs (by simp; omega) (by simp; omega) (fun H w' o' ho' hk hk3 hk4 => ?_)) | (apply WO.iav; exact rfl; exact rfl; omega) | (apply WO.lda; exact rfl; exact fun _ => rfl; (first | omega | (simp only [List.length_set]; omega) | (simp; omega)); decide; exact rfl; case ia => infer_instance) | (apply WO.hlv; exact rfl; exact rfl; exact rfl) | (apply WO.pl; exact rfl; exact rfl) | (apply WO.pp; exact rfl; exact rfl)
    rw [f1, hacc, ← strL_take (by omega)] at ho'
    simp only [List.length_append, List.length_singleton] at hk3 hk4
    exact LQn (ih (i + 1) (by omega) o' _ _ H _ _ rfl ho' (hk 0 _ (fun c n hc => by have := hne c n hc; omega) (at_old (at_old g0))) (hk 1 _ (fun c n hc => by have := hne c n hc; omega) (at_old (at_old g1))) (fun c n hc => by have := hk3 c n hc; omega) (by omega) hQ)
theorem w66 (C : C66 M) (rows : Int) (l : List Str) (t : Nat) (hL : ∀ s ∈ l, s.length < 4611686018427387904) (hl : l.length < 1000000) (h1 : 1 ≤ t) (ht : t ≤ 4096) (hE : strE rows l t = 0) : ∃ o hh, OutW hh o (strL t l) ∧ Run M 66 [.agg [.int .i64 rows, .vs (strs l) l.length cap], .int .i64 t] [] ⟨.tup [.agg [.int .i64 rows, o], .int .i64 0], hh, []⟩ := by
  have q70 := fun h => C.c70 rows l cap h hL hl
  have q := C.q3 [some (.cells [.int .i64 rows, .vs (strs l) l.length cap] 24), some (.cells [.int .i64 0, .nilsl] 24)] (imgE rows l) (if outI t 1 4096 = true then 3 else 0) (if false = true then 5 else 0)
  have ho : outI (t : Int) 1 4096 = false := by simp [outI]; omega
  have hI : imgE rows l = 0 := by
    unfold strE at hE
    split at hE
    · rename_i h; exact absurd hE h
    · rename_i h; exact Decidable.not_not.1 h
  have hP : ¬ (l.length : Int) * t > 4096 := by
    unfold strE at hE
    rw [if_neg (fun h => h hI), ho] at hE
    simp only [Bool.false_eq_true, if_false] at hE
    split at hE
    · exact absurd hE (by decide)
    · assumption
  have hP0 : (0 : Int) ≤ (l.length : Int) * t := Int.mul_nonneg (by omega) (by omega)
  have hB : l.length * t < 1000000 := by
    have : ((l.length * t : Nat) : Int) = (l.length : Int) * t := by simp
    omega
  rw [hI, ho] at q
  rw [hI] at q70
  have ev : firstNZ [0, if false = true then 3 else 0, if false = true then 5 else 0] = 0 := rfl
  rw [ev] at q
  have q121 := fun h => C.c121 t 1 4096 h
  rw [ho] at q121
  obtain ⟨v, hh, ⟨o, rfl, ho⟩, hr⟩ := run_ofE (M := M) (f := 66) (ars := [.agg [.int .i64 rows, .vs (strs l) l.length cap], .int .i64 t]) (P := fun v hh => ∃ o, v = .tup [.agg [.int .i64 rows, o], .int .i64 0] ∧ OutW hh o (strL t l)) (by rw [C.ft]; exact ft66) (by simp) (by
    unfold b66
    simp only [List.map_cons, List.map_nil, List.getElem?_cons_zero, List.getElem?_cons_succ, List.getElem?_nil, Option.getD_some, Option.getD_none]
    repeat' first | apply W.seq | apply SQn | apply W.region | apply WO.nil | apply W.block | apply W.skip | apply W.draw | apply WD.nil | (apply WD.pure1; exact rfl) | (apply WD.load1; exact rfl; exact rfl; exact rfl) | (apply WD.new1; exact rfl) | (apply W.condF; exact rfl) | (apply WO.gtr; exact rfl; exact rfl; all_goals first | (intro _; exfalso; omega) | intro _) | (apply WO.neq; exact rfl; exact rfl; all_goals first | (intro _; exfalso; omega) | intro _) | (apply WO.mul; exact rfl; exact rfl; omega) | (apply WD.cl0; exact rfl; exact rfl; exact rfl; first | exact q70 _ | exact C.c91 _ _ _ | exact q121 _ | exact q) | (apply WO.hlv; exact rfl; exact rfl; exact rfl) | (apply WO.hpv; exact rfl; exact rfl; exact rfl) | (apply WO.pl; exact rfl; exact rfl) | (apply WO.pp; exact rfl; exact rfl)
    refine loop66 (cap := cap) C rows t h1 ht l hl hB _ _ _ l.length 0 (by omega) .nilsl _ [] _ _ _ (by simp [strL]) (.inl ⟨rfl, rfl⟩) rfl rfl (by intro c n hc; cases hc) (by simp) (fun o a7 hp lo wr ho g0 g1 hne => ?_)
    have hone : [AV.int .i64 rows, o].all oneA = true := by rw [List.all_cons, List.all_cons, ho.one.1]; rfl
    have hfill : fillA [AV.int .i64 0, .nilsl] [(0, 1, .int .i64 rows), (1, 1, o)] = some [.int .i64 rows, o] := by
      rcases ho with ⟨_, e⟩ | ⟨c, _, e, _⟩ <;> (rw [e]; rfl)
    have hbuild : ∀ (pe : List AV) (lo : List (Nat × AV)) (hp : Heap), pureA (St.mk pe ((43, o) :: (42, AV.int .i64 rows) :: lo) hp []) (.build [.int .i64 0, .nilsl] [(0, 1, .l 42), (1, 1, .l 43)]) = some (.agg [.int .i64 rows, o]) := fun pe lo hp => by
      have e1 : (St.mk pe ((43, o) :: (42, AV.int .i64 rows) :: lo) hp []).opd (.l 42) = some (.int .i64 rows) := rfl
      have e2 : (St.mk pe ((43, o) :: (42, AV.int .i64 rows) :: lo) hp []).opd (.l 43) = some o := rfl
      simp only [pureA, St.parts, e1, e2, hfill, Option.map_some]
    repeat' first | (apply WO.ldb; exact rfl; exact g0; exact rfl) | (apply WO.pl; exact hbuild _ _ _; exact rfl) | (apply WO.stw; exact rfl; exact rfl; exact g1; exact ⟨rfl, rfl, hone⟩) | apply W.seq | apply SQn | apply W.region | apply WO.nil | apply W.ret | apply BQe | (apply WO.pl; exact rfl; exact rfl) | (apply WO.pp; exact rfl; exact rfl)
    refine ⟨.inr rfl, rfl, [.agg [.int .i64 rows, o], .int .i64 0], ?_, o, rfl, outw_end4 (ho.put fun c n hc => by have := hne c n hc; omega)⟩
    simp only [resultsA, St.opd, readAt]
    simp only [List.set_cons_succ, List.set_cons_zero, List.getElem?_cons_succ, List.getElem?_cons_zero, Option.bind_some, at_put (at_lt g1)]
    rfl)
  exact ⟨o, hh, ho, hr⟩

/-! The same. -/
theorem take_snocS {l : List Str} {i : Nat} (h : i < l.length) : l.take (i + 1) = l.take i ++ [l[i]!] := by
  rw [List.take_succ_eq_append_getElem h, getElem!_pos l i h]
theorem loop79 (l m : List Str) (hlm : l.length = m.length) (hl : l.length < 4611686018427387904) (c1 c2 : Option Nat) {Q : Ex → StW → Prop} (h1 : l = m → ∀ lo wr, Q (.exit 0) ⟨⟨[.vs (strs l) l.length c1, .vs (strs m) m.length c2, .bool false, .int .i64 l.length], lo, [], []⟩, wr⟩)
    (h2 : l ≠ m → ∀ i lo wr, Q .ret ⟨⟨[.vs (strs l) l.length c1, .vs (strs m) m.length c2, .bool false, i], lo, [], []⟩, wr⟩) : ∀ (r i : Nat), i + r = l.length → l.take i = m.take i → ∀ (lo : List (Nat × AV)) (wr : List Nat),
    W M (.loop b79_0) ⟨⟨[.vs (strs l) l.length c1, .vs (strs m) m.length c2, .bool false, .int .i64 i], lo, [], []⟩, wr⟩ Q
  | 0, i, hi, he, lo, wr => by
    obtain rfl : i = l.length := by omega
    rw [List.take_length, hlm, List.take_length] at he
    refine W.loop ?_
    unfold b79_0
    repeat' first | apply W.seq | apply SQn | apply W.region | apply WO.nil | apply W.exit | apply SQe | apply LQe | (apply W.condF; exact rfl) | (apply WO.lss; exact rfl; exact rfl; all_goals first | (intro _; exfalso; omega) | intro _) | (apply WO.pl; exact rfl; exact rfl)
    · exact h1 he _ _
  | r + 1, i, hi, he, lo, wr => by
    have ei : ((i : Int)).toNat = i := by omega
    have b1 : ((i : Int)).toNat < l.length := by omega
    have b2 : ((i : Int)).toNat < m.length := by omega
    refine W.loop ?_
    unfold b79_0
    repeat' first | apply W.seq | apply SQn | apply W.region | apply WO.nil | apply W.block | apply W.ret | apply W.skip | apply SQr | apply BQn | apply BQr | apply LQr | (apply W.drawro; exact rfl) | (apply W.condT; exact rfl) | (apply W.condF; exact rfl) | (apply WO.lss; exact rfl; exact rfl; all_goals first | (intro _; exfalso; omega) | intro _) | (apply WO.add; exact rfl; exact rfl; omega) | (apply WO.iav; exact rfl; exact rfl; omega) | (apply WO.lda; exact rfl; exact fun _ => rfl; (first | omega | (simp only [List.length_set]; omega) | (simp; omega)); decide; exact rfl; case ia => infer_instance) | (apply WO.sneq; exact rfl; exact rfl; all_goals first | (intro h; exact absurd h (by decide)) | (intro h; exact absurd rfl h) | (intro h; contradiction) | intro _) | (apply WO.pl; exact rfl; exact rfl) | (apply WO.pp; exact rfl; exact rfl)
    · rename_i hne
      exact h2 (fun e => hne (by rw [e])) _ _ _
    · rename_i heq
      refine LQn (loop79 l m hlm hl c1 c2 h1 h2 r (i + 1) (by omega) ?_ _ _)
      rw [take_snocS (by omega), take_snocS (by omega), he]
      rw [ei] at heq
      rw [heq]
theorem w79 (hft : M.FT = FT) (l m : List Str) (c1 c2 : Option Nat) (hl : l.length < 4611686018427387904) : Run M 79 [.vs (strs l) l.length c1, .vs (strs m) m.length c2] [] ⟨.bool (decide (l = m)), [], []⟩ := by
  refine run_of_W (by rw [hft]; exact ft79) (by simp) ?_
  unfold b79
  by_cases hlm : l.length = m.length
  · repeat' first | apply W.seq | apply SQn | apply W.region | apply WO.nil | apply W.block | apply W.skip | (apply W.condF; exact rfl) | (apply WO.neq; exact rfl; exact rfl; all_goals first | (intro _; exfalso; omega) | intro _) | (apply WO.pl; exact rfl; exact rfl) | (apply WO.pp; exact rfl; exact rfl)
    refine loop79 l m hlm hl c1 c2 (fun e lo wr => ?_) (fun e i lo wr => ?_) l.length 0 (by omega) rfl _ _
    · repeat' first | apply W.seq | apply SQn | apply W.region | apply WO.nil | apply W.ret | apply BQe | (apply WO.pp; exact rfl; exact rfl)
      exact ⟨.inr rfl, rfl, _, rfl, by rw [decide_eq_true e]; rfl, rfl⟩
    · repeat' first | apply SQr | apply BQr
      exact ⟨.inr rfl, rfl, _, rfl, by rw [decide_eq_false e]; rfl, rfl⟩
  · repeat' first | apply W.seq | apply SQn | apply W.region | apply WO.nil | apply W.ret | apply SQr | (apply W.condT; exact rfl) | (apply WO.neq; exact rfl; exact rfl; all_goals first | (intro _; exfalso; omega) | intro _) | (apply WO.pl; exact rfl; exact rfl) | (apply WO.pp; exact rfl; exact rfl)
    exact ⟨.inr rfl, rfl, _, rfl, by rw [decide_eq_false (fun e => hlm (by rw [e]))]; rfl, rfl⟩
def imageB (r : Int) (l : List Str) (r' : Int) (m : List Str) (e bad : Int) : Bool := if bad ≠ 0 then decide (r = 0 ∧ l.length = 0 ∧ e = bad) else decide (e = 0 ∧ r = r' ∧ l = m)
theorem w76 (hft : M.FT = FT) (r r' : Int) (l m : List Str) (c1 c2 : Option Nat) (h79 : ∀ h, M.ext 79 [.vs (strs l) l.length c1, .vs (strs m) m.length c2] h = some ⟨.bool (decide (l = m)), h, []⟩) :
    Run M 76 [.agg [.int .i64 r, .vs (strs l) l.length c1], .agg [.int .i64 r', .vs (strs m) m.length c2]] [] ⟨.bool (decide (r = r' ∧ l = m)), [], []⟩ := by
  refine run_of_W (by rw [hft]; exact ft76) (by simp) ?_
  unfold b76
  simp only [List.map_cons, List.map_nil, List.getElem?_cons_zero, List.getElem?_cons_succ, List.getElem?_nil, Option.getD_some, Option.getD_none]
  by_cases hlm : l = m
  · rw [decide_eq_true hlm] at h79
    repeat' first | apply W.seq | apply SQn | apply W.region | apply WO.nil | apply W.ret | (apply WO.gT; exact rfl) | (apply WO.sT; exact rfl) | (apply WO.eql; exact rfl; exact rfl; all_goals first | (intro _; exfalso; omega) | intro _) | (apply WO.pkT; exact rfl; exact rfl) | (apply WO.pkF; exact rfl; exact rfl) | (apply WO.cll; exact rfl; exact rfl; first | exact h79 _) | (apply WO.hlv; exact rfl; exact rfl; exact rfl) | (apply WO.hpv; exact rfl; exact rfl; exact rfl) | (apply WO.pl; exact rfl; exact rfl) | (apply WO.pp; exact rfl; exact rfl)
    all_goals exact ⟨.inr rfl, rfl, _, rfl, by simp [tupA, *], rfl⟩
  · rw [decide_eq_false hlm] at h79
    repeat' first | apply W.seq | apply SQn | apply W.region | apply WO.nil | apply W.ret | (apply WO.gT; exact rfl) | (apply WO.sT; exact rfl) | (apply WO.eql; exact rfl; exact rfl; all_goals first | (intro _; exfalso; omega) | intro _) | (apply WO.pkT; exact rfl; exact rfl) | (apply WO.pkF; exact rfl; exact rfl) | (apply WO.cll; exact rfl; exact rfl; first | exact h79 _) | (apply WO.hlv; exact rfl; exact rfl; exact rfl) | (apply WO.hpv; exact rfl; exact rfl; exact rfl) | (apply WO.pl; exact rfl; exact rfl) | (apply WO.pp; exact rfl; exact rfl)
    all_goals exact ⟨.inr rfl, rfl, _, rfl, by simp [tupA, *], rfl⟩
theorem w23 (hft : M.FT = FT) (r r' : Int) (l m : List Str) (e bad : Int) (c1 c2 : Option Nat) (h76 : ∀ h, M.ext 76 [.agg [.int .i64 r, .vs (strs l) l.length c1], .agg [.int .i64 r', .vs (strs m) m.length c2]] h = some ⟨.bool (decide (r = r' ∧ l = m)), h, []⟩) :
    Run M 23 [.agg [.int .i64 r, .vs (strs l) l.length c1], .int .i64 e, .int .i64 bad, .agg [.int .i64 r', .vs (strs m) m.length c2]] [] ⟨.bool (imageB r l r' m e bad), [], []⟩ := by
  unfold imageB
  by_cases hb : bad = 0
  · subst hb
    refine run_of_W (by rw [hft]; exact ft23) (by simp) ?_
    unfold b23
    simp only [List.map_cons, List.map_nil, List.getElem?_cons_zero, List.getElem?_cons_succ, List.getElem?_nil, Option.getD_some, Option.getD_none]
    by_cases hlm : r = r' ∧ l = m
    · rw [decide_eq_true hlm] at h76
      repeat' first | apply W.seq | apply SQn | apply W.region | apply WO.nil | apply W.ret | apply W.skip | (apply W.condF; exact rfl) | (apply WO.gT; exact rfl) | (apply WO.sT; exact rfl) | (apply WO.eql; exact rfl; exact rfl; all_goals first | (intro _; exfalso; omega) | intro _) | (apply WO.neq; exact rfl; exact rfl; all_goals first | (intro _; exfalso; omega) | intro _) | (apply WO.pkT; exact rfl; exact rfl) | (apply WO.pkF; exact rfl; exact rfl) | (apply WO.cll; exact rfl; exact rfl; first | exact h76 _) | (apply WO.hlv; exact rfl; exact rfl; exact rfl) | (apply WO.hpv; exact rfl; exact rfl; exact rfl) | (apply WO.pl; exact rfl; exact rfl) | (apply WO.pp; exact rfl; exact rfl)
      all_goals exact ⟨.inr rfl, rfl, _, rfl, by simp [tupA, *], rfl⟩
    · rw [decide_eq_false hlm] at h76
      repeat' first | apply W.seq | apply SQn | apply W.region | apply WO.nil | apply W.ret | apply W.skip | (apply W.condF; exact rfl) | (apply WO.gT; exact rfl) | (apply WO.sT; exact rfl) | (apply WO.eql; exact rfl; exact rfl; all_goals first | (intro _; exfalso; omega) | intro _) | (apply WO.neq; exact rfl; exact rfl; all_goals first | (intro _; exfalso; omega) | intro _) | (apply WO.pkT; exact rfl; exact rfl) | (apply WO.pkF; exact rfl; exact rfl) | (apply WO.cll; exact rfl; exact rfl; first | exact h76 _) | (apply WO.hlv; exact rfl; exact rfl; exact rfl) | (apply WO.hpv; exact rfl; exact rfl; exact rfl) | (apply WO.pl; exact rfl; exact rfl) | (apply WO.pp; exact rfl; exact rfl)
      all_goals exact ⟨.inr rfl, rfl, _, rfl, by simp [tupA, *], rfl⟩
  · rw [if_pos hb]
    refine run_of_W (by rw [hft]; exact ft23) (by simp) ?_
    unfold b23
    simp only [List.map_cons, List.map_nil, List.getElem?_cons_zero, List.getElem?_cons_succ, List.getElem?_nil, Option.getD_some, Option.getD_none]
    repeat' first | apply W.seq | apply SQn | apply W.region | apply WO.nil | apply W.ret | apply SQr | (apply W.condT; exact rfl) | (apply WO.gT; exact rfl) | (apply WO.sT; exact rfl) | (apply WO.eql; exact rfl; exact rfl; all_goals first | (intro _; exfalso; omega) | intro _) | (apply WO.neq; exact rfl; exact rfl; all_goals first | (intro _; exfalso; omega) | intro _) | (apply WO.pkT; exact rfl; exact rfl) | (apply WO.pkF; exact rfl; exact rfl) | (apply WO.hlv; exact rfl; exact rfl; exact rfl) | (apply WO.hpv; exact rfl; exact rfl; exact rfl) | (apply WO.pl; exact rfl; exact rfl) | (apply WO.pp; exact rfl; exact rfl)
    all_goals refine ⟨.inr rfl, rfl, _, rfl, ?_, rfl⟩
    all_goals simp only [tupA]; congr 1; symm
    all_goals first | (rw [decide_eq_true_eq]; omega) | (rw [decide_eq_false_iff_not]; omega)
end Go.Ab.Ch5


/-
  Own work: the law FinishImages.
-/
namespace Go.Ab.Ch5
variable {M : Mach} {cap : Option Nat}

/-! Texts that a readable slice holds. -/
theorem strsAt_vs {h : Heap} {l : List Str} {cap : Option Nat} : strsAt h (.vs (strs l) l.length cap) = some l := by
  simp only [strsAt, cellsAt, sliceCells, decStrs_strs, if_true]
theorem strsAt_nil {h : Heap} : strsAt h .nilsl = some [] := rfl
theorem strs_at {h : Heap} {b n : Nat} {cap : Option Nat} {l : List Str} {e : TypeId} (hb : h.at b = some (.cells (strs l) e)) (hl : l.length = n) : strsAt h (.sl b 0 n 1 cap) = some l := by
  subst hl
  have e1 : cut (strs l) 0 (l.length * 1) = some (strs l) := by
    rw [Nat.mul_one, ← strs_len l]; simp [cut]
  simp only [strsAt, cellsAt, hb, e1, Option.map_some, decStrs_strs]
  simp

end Go.Ab.Ch5


/-
  Own work: the law FinishImages, whole.
-/
namespace Go.Ab.Ch5
variable {M : Mach}

theorem short_len {l : List Str} (h : shortB l = true) : l.length < 1000000 ∧ ∀ s ∈ l, s.length < 4611686018427387904 := by
  unfold shortB at h
  split at h
  · cases h
  · rename_i hc
    refine ⟨by omega, fun s hs => ?_⟩
    have := List.all_eq_true.1 h s hs
    simp at this
    omega
end Go.Ab.Ch5


/-
  Own work: the contracts of FinishImages as a table.
-/
namespace Go.Ab.Ch5
open Go.Proofs

/-! Images as arguments. -/
def imgAt (h : Heap) : AV → Option (Int × List Str)
  | .agg [.int .i64 rows, v] => (strsAt h v).map fun l => (rows, l)
  | _ => none
theorem imgAt_vs {h : Heap} {rows : Int} {l : List Str} {cap : Option Nat} : imgAt h (.agg [.int .i64 rows, .vs (strs l) l.length cap]) = some (rows, l) := by
  simp only [imgAt, strsAt_vs, Option.map_some]
theorem imgAt_inv {h : Heap} {v : AV} {rows : Int} {l : List Str} (hi : imgAt h v = some (rows, l)) : ∃ x, v = .agg [.int .i64 rows, x] ∧ strsAt h x = some l := by
  unfold imgAt at hi
  split at hi
  · rename_i r x
    rw [Option.map_eq_some_iff] at hi
    obtain ⟨l', h1, h2⟩ := hi
    cases h2
    exact ⟨x, rfl, h1⟩
  · cases hi
theorem Fr.agg2 {h : Heap} {S : List Nat} {r : Int} {x y : AV} (hx : Fr h S x y) : Fr h S (.agg [.int .i64 r, x]) (.agg [.int .i64 r, y]) :=
  .agg rfl fun i a b ha hb => by
    match i, ha, hb with
    | 0, ha, hb => cases ha; cases hb; exact .same rfl
    | 1, ha, hb => cases ha; cases hb; exact hx
theorem imgAt_fr {h : Heap} {v : AV} {rows : Int} {l : List Str} (hi : imgAt h v = some (rows, l)) : ∃ S cap, Fr h S v (.agg [.int .i64 rows, .vs (strs l) l.length cap]) := by
  obtain ⟨x, rfl, hx⟩ := imgAt_inv hi
  obtain ⟨S, cap, hf⟩ := (strsAt_sl hx).fr (fun _ => rfl)
  exact ⟨S, cap, Fr.agg2 hf⟩
def shortL (l : List Str) : Bool := l.all fun s => decide (s.length < 4611686018427387904)
theorem shortL_mem {l : List Str} (h : shortL l = true) : ∀ s ∈ l, s.length < 4611686018427387904 := fun s hs => by
  have := List.all_eq_true.1 h s hs
  simpa using this
theorem shortL_of {l : List Str} (h : ∀ s ∈ l, s.length < 4611686018427387904) : shortL l = true := by
  rw [shortL, List.all_eq_true]
  intro s hs
  simpa using h s hs
theorem novL_strs (l : List Str) : novL (strs l) = true := novL_arr (fun _ => rfl) l

/-! Checks. -/
def specPix : Spec := fun
  | [.int .u8 c], h => some ⟨.bool (pixI c), h, []⟩
  | _, _ => none
theorem pix158 : SpecOK Tryz.prog gl 158 specPix := by
  intro xs h r hq
  unfold specPix at hq
  split at hq
  · cases hq
    exact ent_run0 seat tab_nil (w158 (M := mach Tryz.prog FT []) mach_ft _) (FrL.same rfl) rfl (.inl rfl)
  · cases hq
def specCol : Spec := fun
  | [.str s, .int .i64 rows], h => if s.length < 4611686018427387904 then some ⟨.int .i64 (colE rows s), h, []⟩ else none
  | _, _ => none
theorem col88 : SpecOK Tryz.prog gl 88 specCol := by
  intro xs h r hq
  unfold specCol at hq
  split at hq
  · split at hq
    · rename_i hl
      cases hq
      exact ent_run0 seat (T := [(158, specPix)]) (tab_cons pix158 tab_nil) (w88 mach_ft (fun _ _ => by rw [mach_ext]; rfl) _ _ hl) (FrL.same rfl) rfl (.inl rfl)
    · cases hq
  · cases hq
def specLetters : Spec := fun
  | [.str s], h => if s.length < 4611686018427387904 then some ⟨.bool (s.all pixB), h, []⟩ else none
  | _, _ => none
theorem c153 : C153 (mach Tryz.prog FT []) where
  ft := mach_ft
  n204 _ _ := rfl
  n205 _ _ := rfl
  n265 _ _ := rfl
  n311 _ _ := rfl
theorem letters153 : SpecOK Tryz.prog gl 153 specLetters := by
  intro xs h r hq
  unfold specLetters at hq
  split at hq
  · split at hq
    · rename_i hl
      cases hq
      exact ent_run0 seat tab_nil (w153 c153 _ hl) (FrL.same rfl) rfl (.inl rfl)
    · cases hq
  · cases hq
/-- A function of an image alone. -/
def specImg (f : Int → List Str → AV) : Spec := fun
  | [v], h => match imgAt h v with
    | some (rows, l) => if shortL l = true ∧ l.length < 1000000 then some ⟨f rows l, h, []⟩ else none
    | none => none
  | _, _ => none
theorem specImg_vs {f : Int → List Str → AV} {rows : Int} {l : List Str} {cap : Option Nat} {h : Heap} (hL : ∀ s ∈ l, s.length < 4611686018427387904) (hl : l.length < 1000000) : specImg f [.agg [.int .i64 rows, .vs (strs l) l.length cap]] h = some ⟨f rows l, h, []⟩ := by
  simp only [specImg, imgAt_vs]
  rw [if_pos ⟨shortL_of hL, hl⟩]
theorem specImg_ok {g : Nat} {f : Int → List Str → AV} {T : List (Nat × Spec)} (hT : ExtOK Tryz.prog gl (extS T)) (ht : ∀ rows l, (f rows l).top = 0) (hn : ∀ rows l, nov (f rows l) = true)
    (hr : ∀ rows l cap, (∀ s ∈ l, s.length < 4611686018427387904) → l.length < 1000000 → Run (mach Tryz.prog FT T) g [.agg [.int .i64 rows, .vs (strs l) l.length cap]] [] ⟨f rows l, [], []⟩) : SpecOK Tryz.prog gl g (specImg f) := by
  intro xs h r hq
  unfold specImg at hq
  split at hq
  · split at hq
    · rename_i rows l hi
      split at hq
      · rename_i hc
        cases hq
        obtain ⟨S, cap, hf⟩ := imgAt_fr hi
        exact ent_run0 seat hT (hr rows l cap (shortL_mem hc.1) hc.2) (.cons hf .nil) (ht _ _) (.inr (hn _ _))
      · cases hq
    · cases hq
  · cases hq
def fImgE (rows : Int) (l : List Str) : AV := .int .i64 (imgE rows l)
def TI18 : List (Nat × Spec) := [(87, specOut), (88, specCol)]
theorem TI18_ok : ExtOK Tryz.prog gl (extS TI18) := tab_cons out87 (tab_cons col88 tab_nil)
theorem c18 : C18 (mach Tryz.prog FT TI18) where
  ft := mach_ft
  c87 _ _ _ _ := by rw [mach_ext]; rfl
  c88 s rows h hl := by
    rw [mach_ext]
    show specCol [.str s, .int .i64 rows] h = _
    simp only [specCol, if_pos hl]
theorem check18 : SpecOK Tryz.prog gl 18 (specImg fImgE) := specImg_ok TI18_ok (fun _ _ => rfl) (fun _ _ => rfl) (fun rows l cap hL hl => w18 c18 rows l hL hl)
def TC70 : List (Nat × Spec) := [(91, specWhen), (121, specRange), (90, specFirst), (153, specLetters)]
theorem TC70_ok : ExtOK Tryz.prog gl (extS TC70) := tab_cons when91 (tab_cons range121 (tab_cons first90 (tab_cons letters153 tab_nil)))
theorem c70 : C70 (mach Tryz.prog FT TC70) where
  ft := mach_ft
  c91 _ _ _ := by rw [mach_ext]; rfl
  c121 _ _ _ _ := by rw [mach_ext]; rfl
  c90 v l h hl hn := by
    rw [mach_ext]
    show specFirst [v] h = _
    simp only [specFirst, hl, if_pos hn]
  c153 s h hl := by
    rw [mach_ext]
    show specLetters [.str s] h = _
    simp only [specLetters, if_pos hl]
theorem check70 : SpecOK Tryz.prog gl 70 (specImg fImgE) := specImg_ok TC70_ok (fun _ _ => rfl) (fun _ _ => rfl) (fun rows l cap hL hl => w70 c70 rows l hL hl)
/-- Short asks nothing. -/
def specShort : Spec := fun
  | [v], h => match imgAt h v with
    | some (_, l) => some ⟨.bool (shortB l), h, []⟩
    | none => none
  | _, _ => none
theorem short16 : SpecOK Tryz.prog gl 16 specShort := by
  intro xs h r hq
  unfold specShort at hq
  split at hq
  · split at hq
    · rename_i rows l hi
      cases hq
      obtain ⟨S, cap, hf⟩ := imgAt_fr hi
      exact ent_run0 seat tab_nil (w16 (M := mach Tryz.prog FT []) mach_ft rows l) (.cons hf .nil) rfl (.inr rfl)
    · cases hq
  · cases hq
def specContains : Spec := fun
  | [.str s, .str [b]], h => some ⟨.bool (hasB b.toNat s), h, []⟩
  | _, _ => none
def T336 : List (Nat × Spec) := [(336, specX .index)]
theorem T336_ok : ExtOK Tryz.prog gl (extS T336) := tab_cons (specX_ok x336) tab_nil
theorem c162 : C162 (mach Tryz.prog FT T336) where
  ft := mach_ft
  n213 _ _ := rfl
  n270 _ _ := rfl
  n316 _ _ := rfl
  c336 _ _ _ := by rw [mach_ext]; rfl
theorem contains162 : SpecOK Tryz.prog gl 162 specContains := by
  intro xs h r hq
  unfold specContains at hq
  split at hq
  · cases hq
    exact ent_run0 seat T336_ok (w162 c162 _ _) (FrL.same rfl) rfl (.inl rfl)
  · cases hq
/-! Mirrored, Stretched. -/
def specRev : Spec := fun
  | [v], h => match strsAt h v with
    | some l => if l ≠ [] ∧ l.length < 1000000 then some ⟨.sl h.length 0 l.length 1 none, h ++ [some (.cells (strs l.reverse) 9)], []⟩ else none
    | none => none
  | _, _ => none
theorem rev154 : SpecOK Tryz.prog gl 154 specRev := by
  intro xs h r hq
  unfold specRev at hq
  split at hq
  · split at hq
    · rename_i l hi
      split at hq
      · rename_i hc
        cases hq
        obtain ⟨S, cap, hf⟩ := (strsAt_sl hi).fr (fun _ => rfl)
        exact ent_run1 seat tab_nil (w154 (M := mach Tryz.prog FT []) mach_ft (fun _ _ => rfl) (fun _ _ => rfl) l hc.1 hc.2) (.cons hf .nil) (k := 1) (.sl (i := 0) rfl) rfl (Go.Ab.strs_top _) (.inr (novL_strs _)) (.inr rfl)
      · cases hq
    · cases hq
  · cases hq
def TC71 : List (Nat × Spec) := [(70, specImg fImgE), (154, specRev)]
theorem TC71_ok : ExtOK Tryz.prog gl (extS TC71) := tab_cons check70 (tab_cons rev154 tab_nil)
theorem c71 : C71 (mach Tryz.prog FT TC71) where
  ft := mach_ft
  c70 rows l cap h hL hl := by rw [mach_ext]; exact specImg_vs hL hl
  c154 l cap h hne hl := by
    rw [mach_ext]
    show specRev [.vs (strs l) l.length cap] h = _
    simp only [specRev, strsAt_vs]
    rw [if_pos ⟨hne, hl⟩]
def specMirrored : Spec := fun
  | [v], h => match imgAt h v with
    | some (rows, l) => if shortL l = true ∧ l.length < 1000000 then
        some (if imgE rows l ≠ 0 then ⟨.tup [.agg [.int .i64 0, .nilsl], .int .i64 (imgE rows l)], h, []⟩
        else ⟨.tup [.agg [.int .i64 rows, .sl h.length 0 l.reverse.length 1 none], .int .i64 0], h ++ [some (.cells (strs l.reverse) 9)], []⟩)
      else none
    | none => none
  | _, _ => none
theorem rn_img {k n : Nat} {r : Int} {h : Heap} : Rn [k] h.length (.tup [.agg [.int .i64 r, .sl k 0 n 1 none], .int .i64 0]) (.tup [.agg [.int .i64 r, .sl h.length 0 n 1 none], .int .i64 0]) := by
  refine .tup rfl fun i x y hx hy => ?_
  match i, hx, hy with
  | 0, hx, hy =>
    cases hx; cases hy
    refine .agg rfl fun i x y hx hy => ?_
    match i, hx, hy with
    | 0, hx, hy => cases hx; cases hy; exact .same rfl
    | 1, hx, hy => cases hx; cases hy; exact .sl (i := 0) rfl
  | 1, hx, hy => cases hx; cases hy; exact .same rfl
theorem rn_img1 {k n : Nat} {r : Int} {h : Heap} : Rn [k] h.length (.agg [.int .i64 r, .sl k 0 n 1 none]) (.agg [.int .i64 r, .sl h.length 0 n 1 none]) := by
  refine .agg rfl fun i x y hx hy => ?_
  match i, hx, hy with
  | 0, hx, hy => cases hx; cases hy; exact .same rfl
  | 1, hx, hy => cases hx; cases hy; exact .sl (i := 0) rfl
theorem mirrored71 : SpecOK Tryz.prog gl 71 specMirrored := by
  intro xs h r hq
  unfold specMirrored at hq
  split at hq
  · split at hq
    · rename_i rows l hi
      split at hq
      · rename_i hc
        obtain ⟨S, cap, hf⟩ := imgAt_fr hi
        by_cases hE : imgE rows l ≠ 0
        · rw [if_pos hE] at hq
          cases hq
          exact ent_run0 seat TC71_ok (w71e c71 rows l (shortL_mem hc.1) hc.2 hE) (.cons hf .nil) rfl (.inr rfl)
        · rw [if_neg hE] at hq
          cases hq
          have hr := w71 (cap := cap) c71 rows l (shortL_mem hc.1) hc.2 (Decidable.not_not.1 hE)
          rw [List.length_reverse]
          exact ent_run1 seat TC71_ok hr (.cons hf .nil) (k := 2) rn_img rfl (Go.Ab.strs_top _) (.inr (novL_strs _)) (.inr rfl)
      · cases hq
    · cases hq
  · cases hq
def specMul64 : Spec := fun
  | [.int .u64 x, .int .u64 t], h => if x = 1 ∧ 0 ≤ t ∧ t ≤ 4096 then some ⟨.tup [.int .u64 0, .int .u64 t], h, []⟩ else none
  | _, _ => none
theorem mul259 : SpecOK Tryz.prog gl 259 specMul64 := by
  intro xs h r hq
  unfold specMul64 at hq
  split at hq
  · rename_i x t
    split at hq
    · rename_i hc
      obtain ⟨rfl, h0, h1⟩ := hc
      obtain ⟨t, rfl⟩ := Int.eq_ofNat_of_zero_le h0
      cases hq
      exact ent_run0 seat tab_nil (w259 (M := mach Tryz.prog FT []) mach_ft t (by omega)) (FrL.same rfl) rfl (.inl rfl)
    · cases hq
  · cases hq
theorem mul64_eq (t : Nat) (h : Heap) (ht : t ≤ 4096) : specMul64 [.int .u64 1, .int .u64 t] h = some ⟨.tup [.int .u64 0, .int .u64 t], h, []⟩ := by
  show (if _ then _ else _) = _
  rw [if_pos ⟨rfl, by omega, by omega⟩]
theorem mul203 : SpecOK Tryz.prog gl 203 specMul64 := by
  intro xs h r hq
  unfold specMul64 at hq
  split at hq
  · rename_i x t
    split at hq
    · rename_i hc
      obtain ⟨rfl, h0, h1⟩ := hc
      obtain ⟨t, rfl⟩ := Int.eq_ofNat_of_zero_le h0
      cases hq
      exact ent_run0 seat (T := [(259, specMul64)]) (tab_cons mul259 tab_nil) (w203 mach_ft (fun t h ht => by rw [mach_ext]; exact mul64_eq t h ht) t (by omega)) (FrL.same rfl) rfl (.inl rfl)
    · cases hq
  · cases hq
def specRepeat : Spec := fun
  | [v, .int .i64 t], h => match strsAt h v with
    | some [s] => if 1 ≤ t ∧ t ≤ 4096 then some ⟨.sl h.length 0 t.toNat 1 (some t.toNat), h ++ [some (.cells (strs (List.replicate t.toNat s)) 9)], []⟩ else none
    | _ => none
  | _, _ => none
theorem repeat150 : SpecOK Tryz.prog gl 150 specRepeat := by
  intro xs h r hq
  unfold specRepeat at hq
  split at hq
  · rename_i v t
    split at hq
    · rename_i s hi
      split at hq
      · rename_i hc
        cases hq
        obtain ⟨t, rfl⟩ := Int.eq_ofNat_of_zero_le (show 0 ≤ t by omega)
        obtain ⟨S, cap, hf⟩ := (strsAt_sl hi).fr (fun _ => rfl)
        exact ent_run1 seat (T := [(203, specMul64)]) (tab_cons mul203 tab_nil) (w150 (cap := cap) mach_ft (fun t h ht => by rw [mach_ext]; exact mul64_eq t h ht) s t (by omega) (by omega)) (.cons hf (.cons (.same rfl) .nil)) (k := 0) (.sl (i := 0) rfl) rfl (Go.Ab.strs_top _) (.inr (novL_strs _)) (.inr rfl)
      · cases hq
    · cases hq
  · cases hq
def TC66 : List (Nat × Spec) := [(91, specWhen), (121, specRange), (90, specFirst), (70, specImg fImgE), (150, specRepeat)]
theorem TC66_ok : ExtOK Tryz.prog gl (extS TC66) := tab_cons when91 (tab_cons range121 (tab_cons first90 (tab_cons check70 (tab_cons repeat150 tab_nil))))
theorem c66 : C66 (mach Tryz.prog FT TC66) where
  ft := mach_ft
  c91 _ _ _ := by rw [mach_ext]; rfl
  c121 _ _ _ _ := by rw [mach_ext]; rfl
  c90 v l h hl hn := by
    rw [mach_ext]
    show specFirst [v] h = _
    simp only [specFirst, hl, if_pos hn]
  c70 rows l cap h hL hl := by rw [mach_ext]; exact specImg_vs hL hl
  c150 H s t h1 ht := by
    rw [mach_ext]
    show specRepeat [.sl H.length 0 1 1 (some 1), .int .i64 t] (H ++ [some (.cells [.str s] 9)]) = _
    have e : Heap.at (H ++ [some (.cells [.str s] 9)]) H.length = some (.cells (strs [s]) 9) := at_new
    have e1 : strsAt (H ++ [some (.cells [.str s] 9)]) (.sl H.length 0 1 1 (some 1)) = some [s] := strs_at e rfl
    simp only [specRepeat, e1]
    rw [if_pos (by omega), Int.toNat_natCast]
def specStretched : Spec := fun
  | [v, .int .i64 t], h => match imgAt h v with
    | some (rows, l) => if shortL l = true ∧ l.length < 1000000 then
        if strE rows l t ≠ 0 then some ⟨.tup [.agg [.int .i64 0, .nilsl], .int .i64 (strE rows l t)], h, []⟩
        else if 1 ≤ t ∧ t ≤ 4096 then some ⟨.tup [.agg [.int .i64 rows, .sl h.length 0 (strL t.toNat l).length 1 none], .int .i64 0], h ++ [some (.cells (strs (strL t.toNat l)) 9)], []⟩ else none
      else none
    | none => none
  | _, _ => none
theorem strL_ne {t : Nat} {l : List Str} (ht : 1 ≤ t) (hl : l ≠ []) : strL t l ≠ [] := fun e => by
  have h1 := strL_len t l
  rw [e] at h1
  have h2 : 0 < l.length := List.length_pos_iff.2 hl
  have h3 : 0 < l.length * t := Nat.mul_pos h2 (by omega)
  simp at h1
  omega
theorem strE_img {rows t : Int} {l : List Str} (h : strE rows l t = 0) : imgE rows l = 0 := by
  unfold strE at h
  split at h
  · rename_i h1; exact absurd h h1
  · rename_i h1; exact Decidable.not_not.1 h1
theorem stretched66 : SpecOK Tryz.prog gl 66 specStretched := by
  intro xs h r hq
  unfold specStretched at hq
  split at hq
  · rename_i v t
    split at hq
    · rename_i rows l hi
      split at hq
      · rename_i hc
        obtain ⟨S, cap, hf⟩ := imgAt_fr hi
        split at hq
        · rename_i hE
          cases hq
          exact ent_run0 seat TC66_ok (w66e c66 rows l t (shortL_mem hc.1) hc.2 hE) (.cons hf (.cons (.same rfl) .nil)) rfl (.inr rfl)
        · rename_i hE
          split at hq
          · rename_i ht
            cases hq
            obtain ⟨t, rfl⟩ := Int.eq_ofNat_of_zero_le (show 0 ≤ t by omega)
            have hE := Decidable.not_not.1 hE
            obtain ⟨o, hh, ho, hr⟩ := w66 (cap := cap) c66 rows l t (shortL_mem hc.1) hc.2 (by omega) (by omega) hE
            rw [Int.toNat_natCast]
            rcases ho with ⟨h1, rfl⟩ | ⟨c, h0, rfl, h2⟩
            · exact absurd h1 (strL_ne (by omega) (imgE_ne (strE_img hE)))
            · exact ent_run1 seat TC66_ok hr (.cons hf (.cons (.same rfl) .nil)) (k := c) rn_img h2 (Go.Ab.strs_top _) (.inr (novL_strs _)) (.inr rfl)
          · cases hq
      · cases hq
    · cases hq
  · cases hq
/-! The same. -/
theorem two_frS {h : Heap} {x y : AV} {l m : List Str} (hx : strsAt h x = some l) (hy : strsAt h y = some m) : ∃ S c1 c2, Fr h S x (.vs (strs l) l.length c1) ∧ Fr h S y (.vs (strs m) m.length c2) :=
  let ⟨S1, c1, f1⟩ := (strsAt_sl hx).fr (fun _ => rfl)
  let ⟨S2, c2, f2⟩ := (strsAt_sl hy).fr (fun _ => rfl)
  ⟨S1 ++ S2, c1, c2, f1.mono (fun _ hb => List.mem_append_left _ hb), f2.mono (fun _ hb => List.mem_append_right _ hb)⟩
def specSameS : Spec := fun
  | [x, y], h => match strsAt h x, strsAt h y with
    | some l, some m => if l.length < 4611686018427387904 then some ⟨.bool (decide (l = m)), h, []⟩ else none
    | _, _ => none
  | _, _ => none
theorem same79 : SpecOK Tryz.prog gl 79 specSameS := by
  intro xs h r hq
  unfold specSameS at hq
  split at hq
  · split at hq
    · rename_i l m hl hm
      split at hq
      · rename_i hlen
        cases hq
        obtain ⟨S, c1, c2, f1, f2⟩ := two_frS hl hm
        exact ent_run0 seat tab_nil (w79 (M := mach Tryz.prog FT []) mach_ft l m c1 c2 hlen) (.cons f1 (.cons f2 .nil)) rfl (.inr rfl)
      · cases hq
    · cases hq
  · cases hq
def T79 : List (Nat × Spec) := [(79, specSameS)]
theorem T79_ok : ExtOK Tryz.prog gl (extS T79) := tab_cons same79 tab_nil
theorem sameS_vs {l m : List Str} {c1 c2 : Option Nat} {h : Heap} (hl : l.length < 4611686018427387904) : specSameS [.vs (strs l) l.length c1, .vs (strs m) m.length c2] h = some ⟨.bool (decide (l = m)), h, []⟩ := by
  simp only [specSameS, strsAt_vs, if_pos hl]
def specSameI : Spec := fun
  | [.agg [.int .i64 r, x], .agg [.int .i64 r', y]], h => match strsAt h x, strsAt h y with
    | some l, some m => if l.length < 4611686018427387904 then some ⟨.bool (decide (r = r' ∧ l = m)), h, []⟩ else none
    | _, _ => none
  | _, _ => none
theorem same76 : SpecOK Tryz.prog gl 76 specSameI := by
  intro xs h r hq
  unfold specSameI at hq
  split at hq
  · split at hq
    · rename_i l m hl hm
      split at hq
      · rename_i hlen
        cases hq
        obtain ⟨S, c1, c2, f1, f2⟩ := two_frS hl hm
        exact ent_run0 seat T79_ok (w76 mach_ft _ _ l m c1 c2 fun hp => by rw [mach_ext]; exact sameS_vs hlen) (.cons (Fr.agg2 f1) (.cons (Fr.agg2 f2) .nil)) rfl (.inr rfl)
      · cases hq
    · cases hq
  · cases hq
def specImage : Spec := fun
  | [.agg [.int .i64 r, x], .int .i64 e, .int .i64 bad, .agg [.int .i64 r', y]], h => match strsAt h x, strsAt h y with
    | some l, some m => if l.length < 4611686018427387904 then some ⟨.bool (imageB r l r' m e bad), h, []⟩ else none
    | _, _ => none
  | _, _ => none
def T76 : List (Nat × Spec) := [(76, specSameI)]
theorem image23 : SpecOK Tryz.prog gl 23 specImage := by
  intro xs h r hq
  unfold specImage at hq
  split at hq
  · split at hq
    · rename_i l m hl hm
      split at hq
      · rename_i hlen
        cases hq
        obtain ⟨S, c1, c2, f1, f2⟩ := two_frS hl hm
        refine ent_run0 seat (T := T76) (tab_cons same76 tab_nil) (w23 mach_ft _ _ l m _ _ c1 c2 fun hp => ?_) (.cons (Fr.agg2 f1) (.cons (.same rfl) (.cons (.same rfl) (.cons (Fr.agg2 f2) .nil)))) rfl (.inr rfl)
        rw [mach_ext]
        show specSameI [.agg [.int .i64 _, .vs (strs l) l.length c1], .agg [.int .i64 _, .vs (strs m) m.length c2]] hp = _
        simp only [specSameI, strsAt_vs, if_pos hlen]
      · cases hq
    · cases hq
  · cases hq

end Go.Ab.Ch5


/-
  Own work: arguments that are slices of strings, or images, as the abstract machine sees them.
-/
namespace Go.Ab.Ch5
open Go.Proofs
open Go.ChangeShapes Go.WideShapes Go.RowKit
variable {H : Type} {enc : TypeId × Value → H} {P : Program} {W : World} {base : Nat} {sp : Nat → Bool} {t e : TypeId} {v : Value} {d : DataW H} {ps : List MemPlace}

theorem v_strs_cells (ht : P.underlying t = some (.slice e)) (he : P.underlying e = some .string) (hc : P.cellsOf e = 1) {c : Value} (hval : Cell.okWide P W .any base t c) {fuel : Nat} {x : DataW H × List MemPlace} (hf : DataW.trod enc P W 0 sp true fuel t [c] = some x) : ∃ l : List Str, V bare W (.vs (strs l) l.length none) c := by
  rcases Go.Deep.open_strs ht he hc hf with ⟨hcs, _⟩ | ⟨a, len, cap, m, Sx, hcs, _, hle, _, hm, _, hcell⟩
  · simp only [List.cons.injEq, and_true] at hcs
    subst hcs
    exact ⟨[], .vsN (fun n hn => by cases hn)⟩
  · simp only [List.cons.injEq, and_true] at hcs
    subst hcs
    have hs : a.spot = none := by
      simp only [ht, Cell.okWide, Cell.ok, World.has] at hval
      exact hval.2.2.2.1
    obtain ⟨b, off, spot⟩ := a
    simp only at hs
    subst hs
    have hlen : len ≤ m := by rw [hm]; split <;> omega
    refine ⟨(List.range len).map fun i => (Sx i).data.toList, ?_⟩
    have el : ((List.range len).map fun i => (Sx i).data.toList).length = len := by simp
    have e2 : strs ((List.range len).map fun i => (Sx i).data.toList) = (List.range len).map fun i => AV.str (Sx i).data.toList := by
      have e1 : ∀ l : List Str, strs l = l.map AV.str := fun l => by
        simp only [strs, arr]
        induction l with
        | nil => rfl
        | cons y l ih => simp only [List.flatMap_cons, List.map_cons, ih]; rfl
      rw [e1, List.map_map]; rfl
    rw [el]
    refine .vs b off (fun i => .string (Sx i)) (fun _ => free_bare) hle (fun n hn => by cases hn) (fun i hi => ?_) (fun i x hx => ?_)
    · have hi' : i < len := by rw [e2] at hi; simpa using hi
      have := (hcell i (by omega)).1
      rw [add_plain] at this
      exact this
    · rw [e2, List.getElem?_map, Option.map_eq_some_iff] at hx
      obtain ⟨z, hz, rfl⟩ := hx
      rw [List.getElem?_range] at hz
      · cases hz
        exact V.str' _
      · exact (List.getElem?_eq_some_iff.1 hz).1 |> fun h => by simpa using h


theorem und24 : ∃ f0 f1, Tryz.prog.underlying 24 = some (.struct #[f0, f1]) ∧ f0.type = 3 ∧ f0.offset = 0 ∧ f1.type = 22 ∧ f1.offset = 1 :=
  ⟨{ name := "Rows", type := 3, offset := 0, embedded := false, tag := "", pkgPath := "", byteOffset := 0 }, { name := "Columns", type := 22, offset := 1, embedded := false, tag := "", pkgPath := "", byteOffset := 8 }, by kernel_rfl, rfl, rfl, rfl, rfl⟩
theorem und22 : Tryz.prog.underlying 22 = some (.slice 9) := by kernel_rfl
theorem und9' : Tryz.prog.underlying 9 = some .string := by kernel_rfl
theorem und3' : Tryz.prog.underlying 3 = some (.int .i64) := by kernel_rfl
theorem cellsI3 : Tryz.prog.cellsOf 3 = 1 := by kernel_rfl
theorem cellsI9 : Tryz.prog.cellsOf 9 = 1 := by kernel_rfl
theorem cellsI22 : Tryz.prog.cellsOf 22 = 1 := by kernel_rfl
theorem cellsI24 : Tryz.prog.cellsOf 24 = 2 := by kernel_rfl
theorem ctypes24 : Tryz.prog.cellTypes Tryz.prog.depth 24 = some [3, 22] := by kernel_rfl

set_option maxRecDepth 100000 in
theorem v_image {H : Type} {enc : TypeId × Value → H} {W : World} {base : Nat} {sp : Nat → Bool} {v : Value} {d : DataW H} {ps : List MemPlace} (hval : Value.okWide Tryz.prog W .any base 24 v) (h : DataW.Trod enc Tryz.prog W 0 sp true 24 v d ps) :
    ∃ (rows : Int) (l : List Str), V bare W (.agg [.int .i64 rows, .vs (strs l) l.length none]) v := by
  obtain ⟨f0, f1, hu, e0, o0, e1, o1⟩ := und24
  simp only [Value.okWide, hu] at hval
  obtain ⟨cs, rfl, hsz, ts, hts, _, hall⟩ := hval
  rw [ctypes24] at hts
  obtain rfl : ts = [3, 22] := (Option.some.inj hts).symm
  rw [cellsI24] at hsz
  obtain ⟨fuel, hf⟩ := h
  obtain ⟨l⟩ := cs
  match l, hsz with
  | [c0, c1], _ =>
    obtain ⟨y0, y1, n, hx, _, t0, t1⟩ := Go.ChangeShapes.trod_struct2 hu hf
    simp only [e0, o0, e1, o1, cellsI3, cellsI22, Value.cells, List.drop, List.take] at t0 t1
    obtain ⟨z, a0, _⟩ := DataW.trod_int und3' t0
    simp only [List.cons.injEq, and_true] at a0
    subst a0
    obtain ⟨u, hu1, hok⟩ := hall 1 c1 rfl
    obtain rfl : u = 22 := (Option.some.inj hu1).symm
    obtain ⟨l, hl⟩ := v_strs_cells und22 und9' cellsI9 hok t1
    exact ⟨z, l, .agg (m := [.int .i64 z, c1]) rfl fun i x y hx hy => by
      match i, hx, hy with
      | 0, hx, hy => cases hx; cases hy; exact .int _ _
      | 1, hx, hy => cases hx; cases hy; exact hl⟩
end Go.Ab.Ch5


/-
  Own work: texts split at a byte: before and behind the first one, and at all of them.
-/
namespace Go.Ab.Ch5
variable {M : Mach} {cap : Option Nat}

/-- The text before the first such byte, and what is behind it, if it is there. -/
def spl1 (b : UInt8) : Str → Str × Option Str
  | [] => ([], none)
  | c :: s => if c = b then ([], some s) else (c :: (spl1 b s).1, (spl1 b s).2)
def splitL (b : UInt8) : Str → List Str
  | [] => [[]]
  | c :: s => if c = b then [] :: splitL b s else match splitL b s with
    | [] => [[c]]
    | x :: l => (c :: x) :: l
def cntB (b : UInt8) : Str → Nat
  | [] => 0
  | c :: s => (if c = b then 1 else 0) + cntB b s
theorem splitL_ne (b : UInt8) : ∀ s : Str, splitL b s ≠ []
  | [] => by simp [splitL]
  | c :: s => by
    rw [splitL]
    split
    · simp
    · split <;> simp
theorem splitL_len (b : UInt8) : ∀ s : Str, (splitL b s).length = cntB b s + 1
  | [] => rfl
  | c :: s => by
    have := splitL_len b s
    rw [splitL, cntB]
    split
    · rw [List.length_cons, this]; omega
    · split
      · rename_i h; exact absurd h (splitL_ne b s)
      · rename_i x l h; rw [h] at this; simp only [List.length_cons] at this ⊢; omega
theorem cntB_le (b : UInt8) : ∀ s : Str, cntB b s ≤ s.length
  | [] => Nat.le_refl _
  | c :: s => by
    have := cntB_le b s
    rw [cntB, List.length_cons]
    split <;> omega
theorem spl1_none {b : UInt8} : ∀ {s : Str}, (spl1 b s).2 = none → (spl1 b s).1 = s ∧ splitL b s = [s] ∧ cntB b s = 0
  | [], _ => ⟨rfl, rfl, rfl⟩
  | c :: s, h => by
    rw [spl1] at h ⊢
    by_cases hc : c = b
    · rw [if_pos hc] at h; cases h
    · rw [if_neg hc] at h ⊢
      obtain ⟨h1, h2, h3⟩ := spl1_none (s := s) h
      refine ⟨by simp only; rw [h1], ?_, ?_⟩
      · rw [splitL, if_neg hc, h2]
      · rw [cntB, if_neg hc, h3]
theorem spl1_some {b : UInt8} : ∀ {s y : Str}, (spl1 b s).2 = some y → s = (spl1 b s).1 ++ b :: y ∧ splitL b s = (spl1 b s).1 :: splitL b y ∧ cntB b s = cntB b y + 1 ∧ b ∉ (spl1 b s).1
  | [], y, h => by cases h
  | c :: s, y, h => by
    rw [spl1] at h ⊢
    by_cases hc : c = b
    · rw [if_pos hc] at h ⊢
      obtain rfl : s = y := Option.some.inj h
      subst hc
      refine ⟨rfl, ?_, ?_, by simp⟩
      · rw [splitL, if_pos rfl]
      · rw [cntB, if_pos rfl]; omega
    · rw [if_neg hc] at h ⊢
      obtain ⟨h1, h2, h3, h4⟩ := spl1_some (s := s) h
      refine ⟨by simp only [List.cons_append]; rw [← h1], ?_, ?_, ?_⟩
      · rw [splitL, if_neg hc, h2]
      · rw [cntB, if_neg hc, h3]; omega
      · simp only [List.mem_cons, not_or]
        exact ⟨fun e => hc e.symm, h4⟩
theorem spl1_noneI {b : UInt8} : ∀ {s : Str}, cntB b s = 0 → (spl1 b s).2 = none
  | [], _ => rfl
  | c :: s, h => by
    rw [cntB] at h
    by_cases hc : c = b
    · rw [if_pos hc] at h; omega
    · rw [if_neg hc] at h
      rw [spl1, if_neg hc]
      exact spl1_noneI (s := s) (by omega)
/-- The place of the first such byte. -/
theorem firstIdx_spl (s : Str) (b : UInt8) : firstIdx ⟨s.toArray⟩ b = if (spl1 b s).2 = none then -1 else ((spl1 b s).1.length : Int) := by
  have hsz : (ByteArray.mk s.toArray).size = s.length := by simp [ByteArray.size]
  have hg : ∀ i, i < s.length → (ByteArray.mk s.toArray)[i]! = s[i]! := fun i hi => by
    have h1 : i < (ByteArray.mk s.toArray).size := by rw [hsz]; exact hi
    rw [getElem!_pos (ByteArray.mk s.toArray) i h1, getElem!_pos s i hi]
    rfl
  unfold firstIdx
  cases hy : (spl1 b s).2 with
  | none =>
    rw [if_pos rfl]
    cases hf : (List.range (ByteArray.mk s.toArray).size).find? fun i => (ByteArray.mk s.toArray)[i]! == b with
    | none => rfl
    | some i =>
      exfalso
      have h1 := List.find?_some hf
      have h2 := List.mem_of_find?_eq_some hf
      rw [List.mem_range, hsz] at h2
      rw [hg i h2, getElem!_pos s i h2] at h1
      have hm : b ∈ s := by
        have : s[i] = b := by simpa using h1
        rw [← this]; exact List.getElem_mem h2
      have h0 := (spl1_none hy).2.2
      have : ∀ s : Str, b ∈ s → 0 < cntB b s := fun s => by
        induction s with
        | nil => intro h; cases h
        | cons c s ih =>
          intro h
          rw [cntB]
          rcases List.mem_cons.1 h with rfl | h
          · rw [if_pos rfl]; omega
          · have := ih h; omega
      have := this s hm
      omega
  | some y =>
    rw [if_neg (by simp)]
    obtain ⟨h1, _, _, h4⟩ := spl1_some hy
    generalize (spl1 b s).1 = x at h1 h4 ⊢
    have hl : x.length < s.length := by rw [h1]; simp
    have hf : ((List.range (ByteArray.mk s.toArray).size).find? fun i => (ByteArray.mk s.toArray)[i]! == b) = some x.length := by
      rw [hsz, List.find?_range_eq_some]
      refine ⟨?_, by simpa using hl, fun j hj => ?_⟩
      · rw [hg _ hl, getElem!_pos s _ hl]
        have : s[x.length]? = some b := by rw [h1]; simp
        rw [List.getElem?_eq_getElem hl] at this
        simp [Option.some.inj this]
      · rw [hg j (by omega), getElem!_pos s j (by omega)]
        have : s[j]? = x[j]? := by rw [h1, List.getElem?_append_left hj]
        rw [List.getElem?_eq_getElem (by omega : j < s.length), List.getElem?_eq_getElem hj] at this
        rw [Option.some.inj this]
        have hne : x[j] ≠ b := fun e => h4 (by rw [← e]; exact List.getElem_mem hj)
        simp [hne]
    rw [hf]
theorem foldl_cnt (b : UInt8) : ∀ (s : Str) (n : Int), s.foldl (fun n x => if x == b then n + 1 else n) n = n + cntB b s
  | [], n => by simp [cntB]
  | c :: s, n => by
    rw [List.foldl_cons, foldl_cnt b s, cntB]
    by_cases hc : c = b
    · simp [hc]; omega
    · simp [hc]
theorem count_spl (s : Str) (b : UInt8) : (ByteArray.mk s.toArray).foldl (fun n x => if x == b then n + 1 else n) ((0 : Nat) : Int) = cntB b s := by
  rw [Go.Lib.foldl_data]
  show s.foldl _ _ = _
  rw [foldl_cnt]
  simp
end Go.Ab.Ch5

