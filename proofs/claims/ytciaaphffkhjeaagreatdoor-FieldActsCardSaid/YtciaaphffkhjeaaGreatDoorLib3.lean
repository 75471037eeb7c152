/-
  Own work: the resolved code of some functions of chapter 6.
-/
import Derived.Test.YtciaaphffkhjeaaGreatDoorCh6Base
import Derived.Test.YtciaaphffkhjeaaGreatDoorLib2
import Derived.Test.YtciaaphffkhjeaaGreatDoorCh6Row
namespace Go.Ab.Ch6
set_option maxRecDepth 1000000
def b61_0 : ICode :=
 .seq (.region [⟨(.l 8), .bin .lss (.p 5) (.p 4), none⟩])
  (.seq (.cond (.l 8)
    (.skip)
    (.exit 0))
   (.seq (.block 1
     (.seq (.region [⟨(.l 9), .iaddr none 1 (.p 3) (.p 5), none⟩,
        ⟨(.l 10), .load 1 false (.l 9), none⟩,
        ⟨(.p 2), .mv (.l 10), none⟩])
      (.seq (.region [⟨(.l 11), .mv (.p 2), none⟩,
         ⟨(.l 12), .bin .neq (.l 11) (.c (.int .i64 (0))), none⟩])
       (.cond (.l 12)
        (.seq (.region [⟨(.l 13), .mv (.p 2), none⟩,
           ⟨(.p 1), .mv (.l 13), none⟩])
         (.ret))
        (.skip)))))
    (.region [⟨(.l 14), .bin .add (.p 5) (.c (.int .i64 (1))), none⟩,
      ⟨(.p 5), .mv (.l 14), none⟩])))
/-- stadion/field.first -/
def b61 : ICode :=
 .seq (.region [⟨(.p 1), .mv (.c (.int .i64 (0))), none⟩])
  (.seq (.seq (.region [⟨(.p 3), .mv (.p 0), none⟩,
      ⟨(.p 4), .len .sl (.p 3), none⟩,
      ⟨(.p 5), .mv (.c (.int .i64 (0))), none⟩])
    (.block 0
     (.loop b61_0)))
   (.seq (.region [⟨(.p 1), .mv (.c (.int .i64 (0))), none⟩])
    (.ret)))
theorem ft61 : FT 61 = some ⟨15, [0, 2, 4, 5, 6, 7], [.var (.p 1)], b61⟩ := by kernel_rfl

/-- stadion/field.when -/
def b64 : ICode :=
 .seq (.region [⟨(.p 2), .mv (.c (.int .i64 (0))), none⟩])
  (.seq (.seq (.region [⟨(.l 5), .mv (.p 0), none⟩])
    (.cond (.l 5)
     (.seq (.region [⟨(.l 6), .mv (.p 1), none⟩,
        ⟨(.p 2), .mv (.l 6), none⟩])
      (.ret))
     (.skip)))
   (.seq (.region [⟨(.p 2), .mv (.c (.int .i64 (0))), none⟩])
    (.ret)))
theorem ft64 : FT 64 = some ⟨7, [0, 1, 4], [.var (.p 2)], b64⟩ := by kernel_rfl

/-- stadion/field.within -/
def b63 : ICode :=
 .seq (.region [⟨(.p 3), .mv (.c (.int .i64 (0))), none⟩])
  (.seq (.region [⟨(.l 7), .mv (.p 0), none⟩,
     ⟨(.l 8), .mv (.p 1), none⟩,
     ⟨(.l 9), .bin .lss (.l 7) (.l 8), none⟩,
     ⟨(.l 10), .mv (.l 9), none⟩,
     ⟨(.l 11), .mv (.p 0), some ((.l 10), false)⟩,
     ⟨(.l 12), .mv (.p 2), some ((.l 10), false)⟩,
     ⟨(.l 13), .bin .gtr (.l 11) (.l 12), some ((.l 10), false)⟩,
     ⟨(.l 14), .pick (.l 10) (.c (.bool true)) (.l 13), none⟩,
     ⟨(.l 15), .call (.c (.fn (.func 64) [] [])) [(.l 14), (.c (.int .i64 (3)))], none⟩,
     ⟨(.p 3), .mv (.l 15), none⟩])
   (.ret))
theorem ft63 : FT 63 = some ⟨16, [0, 1, 2, 6], [.var (.p 3)], b63⟩ := by kernel_rfl

def b67_0 : ICode :=
 .seq (.region [⟨(.p 6), .next (.p 5), none⟩,
    ⟨(.l 9), .extract 0 (.p 6), none⟩])
  (.seq (.cond (.l 9)
    (.skip)
    (.exit 0))
   (.block 1
    (.seq (.region [⟨(.l 10), .extract 1 (.p 6), none⟩,
       ⟨(.l 11), .extract 2 (.p 6), none⟩,
       ⟨(.p 2), .mv (.l 10), none⟩,
       ⟨(.p 3), .mv (.l 11), none⟩])
     (.seq (.region [⟨(.l 12), .mv (.p 3), none⟩,
        ⟨(.l 13), .bin .geq (.l 12) (.c (.int .i32 (97))), none⟩,
        ⟨(.l 14), .mv (.l 13), none⟩,
        ⟨(.l 15), .mv (.p 3), some ((.l 14), true)⟩,
        ⟨(.l 16), .bin .leq (.l 15) (.c (.int .i32 (122))), some ((.l 14), true)⟩,
        ⟨(.l 17), .pick (.l 14) (.l 16) (.c (.bool false)), none⟩,
        ⟨(.l 18), .mv (.l 17), none⟩,
        ⟨(.l 19), .mv (.p 3), some ((.l 18), false)⟩,
        ⟨(.l 20), .bin .geq (.l 19) (.c (.int .i32 (65))), some ((.l 18), false)⟩,
        ⟨(.l 21), .mv (.l 20), some ((.l 18), false)⟩,
        ⟨(.l 22), .mv (.p 3), some ((.l 21), true)⟩,
        ⟨(.l 23), .bin .leq (.l 22) (.c (.int .i32 (90))), some ((.l 21), true)⟩,
        ⟨(.l 24), .pick (.l 21) (.l 23) (.c (.bool false)), some ((.l 18), false)⟩,
        ⟨(.l 25), .pick (.l 18) (.c (.bool true)) (.l 24), none⟩,
        ⟨(.p 4), .mv (.l 25), none⟩])
      (.seq (.region [⟨(.l 26), .mv (.p 4), none⟩,
         ⟨(.l 27), .un .not (.l 26), none⟩,
         ⟨(.l 28), .mv (.l 27), none⟩,
         ⟨(.l 29), .mv (.p 2), some ((.l 28), true)⟩,
         ⟨(.l 30), .bin .eql (.l 29) (.c (.int .i64 (0))), some ((.l 28), true)⟩,
         ⟨(.l 31), .mv (.l 30), some ((.l 28), true)⟩,
         ⟨(.l 32), .mv (.p 3), some ((.l 31), false)⟩,
         ⟨(.l 33), .bin .neq (.l 32) (.c (.int .i32 (95))), some ((.l 31), false)⟩,
         ⟨(.l 34), .mv (.l 33), some ((.l 31), false)⟩,
         ⟨(.l 35), .mv (.p 3), some ((.l 34), true)⟩,
         ⟨(.l 36), .bin .lss (.l 35) (.c (.int .i32 (48))), some ((.l 34), true)⟩,
         ⟨(.l 37), .mv (.l 36), some ((.l 34), true)⟩,
         ⟨(.l 38), .mv (.p 3), some ((.l 37), false)⟩,
         ⟨(.l 39), .bin .gtr (.l 38) (.c (.int .i32 (57))), some ((.l 37), false)⟩,
         ⟨(.l 40), .pick (.l 37) (.c (.bool true)) (.l 39), some ((.l 34), true)⟩,
         ⟨(.l 41), .pick (.l 34) (.l 40) (.c (.bool false)), some ((.l 31), false)⟩,
         ⟨(.l 42), .pick (.l 31) (.c (.bool true)) (.l 41), some ((.l 28), true)⟩,
         ⟨(.l 43), .pick (.l 28) (.l 42) (.c (.bool false)), none⟩])
       (.cond (.l 43)
        (.seq (.region [⟨(.p 1), .mv (.c (.bool false)), none⟩])
         (.ret))
        (.skip)))))))
/-- stadion/mark.IsName -/
def b67 : ICode :=
 .seq (.region [⟨(.p 1), .mv (.c (.bool false)), none⟩])
  (.seq (.seq (.region [⟨(.l 6), .mv (.p 0), none⟩,
      ⟨(.p 5), .range (.l 6), none⟩])
    (.block 0
     (.loop b67_0)))
   (.seq (.region [⟨(.l 44), .mv (.p 0), none⟩,
      ⟨(.l 45), .len .str (.l 44), none⟩,
      ⟨(.l 46), .bin .gtr (.l 45) (.c (.int .i64 (0))), none⟩,
      ⟨(.l 47), .mv (.l 46), none⟩,
      ⟨(.l 48), .mv (.p 0), some ((.l 47), true)⟩,
      ⟨(.l 49), .len .str (.l 48), some ((.l 47), true)⟩,
      ⟨(.l 50), .bin .leq (.l 49) (.c (.int .i64 (24))), some ((.l 47), true)⟩,
      ⟨(.l 51), .pick (.l 47) (.l 50) (.c (.bool false)), none⟩,
      ⟨(.p 1), .mv (.l 51), none⟩])
    (.ret)))
theorem ft67 : FT 67 = some ⟨52, [0, 2, 3, 4, 5, 7, 8], [.var (.p 1)], b67⟩ := by kernel_rfl

def b68_0 : ICode :=
 .seq (.seq (.region [⟨(.l 14), .mv (.p 2), none⟩,
     ⟨(.l 15), .mv (.p 0), none⟩,
     ⟨(.l 16), .len .str (.l 15), none⟩,
     ⟨(.l 17), .bin .lss (.l 14) (.l 16), none⟩])
   (.cond (.l 17)
    (.skip)
    (.exit 0)))
  (.seq (.block 1
    (.seq (.region [⟨(.l 20), .mv (.p 0), none⟩,
       ⟨(.l 21), .mv (.p 2), none⟩,
       ⟨(.l 22), .index (.l 20) (.l 21), none⟩,
       ⟨(.p 3), .mv (.l 22), none⟩])
     (.seq (.region [⟨(.l 23), .mv (.p 3), none⟩,
        ⟨(.l 24), .bin .geq (.l 23) (.c (.int .u8 (97))), none⟩,
        ⟨(.l 25), .mv (.l 24), none⟩,
        ⟨(.l 26), .mv (.p 3), some ((.l 25), true)⟩,
        ⟨(.l 27), .bin .leq (.l 26) (.c (.int .u8 (122))), some ((.l 25), true)⟩,
        ⟨(.l 28), .pick (.l 25) (.l 27) (.c (.bool false)), none⟩,
        ⟨(.l 29), .mv (.l 28), none⟩,
        ⟨(.l 30), .mv (.p 3), some ((.l 29), false)⟩,
        ⟨(.l 31), .bin .geq (.l 30) (.c (.int .u8 (65))), some ((.l 29), false)⟩,
        ⟨(.l 32), .mv (.l 31), some ((.l 29), false)⟩,
        ⟨(.l 33), .mv (.p 3), some ((.l 32), true)⟩,
        ⟨(.l 34), .bin .leq (.l 33) (.c (.int .u8 (90))), some ((.l 32), true)⟩,
        ⟨(.l 35), .pick (.l 32) (.l 34) (.c (.bool false)), some ((.l 29), false)⟩,
        ⟨(.l 36), .pick (.l 29) (.c (.bool true)) (.l 35), none⟩,
        ⟨(.p 4), .mv (.l 36), none⟩])
      (.seq (.region [⟨(.l 37), .mv (.p 4), none⟩,
         ⟨(.l 38), .un .not (.l 37), none⟩,
         ⟨(.l 39), .mv (.l 38), none⟩,
         ⟨(.l 40), .mv (.p 2), some ((.l 39), true)⟩,
         ⟨(.l 41), .bin .eql (.l 40) (.c (.int .i64 (0))), some ((.l 39), true)⟩,
         ⟨(.l 42), .mv (.l 41), some ((.l 39), true)⟩,
         ⟨(.l 43), .mv (.p 3), some ((.l 42), false)⟩,
         ⟨(.l 44), .bin .geq (.l 43) (.c (.int .u8 (48))), some ((.l 42), false)⟩,
         ⟨(.l 45), .mv (.l 44), some ((.l 42), false)⟩,
         ⟨(.l 46), .mv (.p 3), some ((.l 45), true)⟩,
         ⟨(.l 47), .bin .leq (.l 46) (.c (.int .u8 (57))), some ((.l 45), true)⟩,
         ⟨(.l 48), .pick (.l 45) (.l 47) (.c (.bool false)), some ((.l 42), false)⟩,
         ⟨(.l 49), .mv (.l 48), some ((.l 42), false)⟩,
         ⟨(.l 50), .mv (.p 3), some ((.l 49), false)⟩,
         ⟨(.l 51), .bin .eql (.l 50) (.c (.int .u8 (95))), some ((.l 49), false)⟩,
         ⟨(.l 52), .pick (.l 49) (.c (.bool true)) (.l 51), some ((.l 42), false)⟩,
         ⟨(.l 53), .un .not (.l 52), some ((.l 42), false)⟩,
         ⟨(.l 54), .pick (.l 42) (.c (.bool true)) (.l 53), some ((.l 39), true)⟩,
         ⟨(.l 55), .pick (.l 39) (.l 54) (.c (.bool false)), none⟩])
       (.cond (.l 55)
        (.seq (.region [⟨(.p 1), .mv (.c (.bool false)), none⟩])
         (.ret))
        (.skip))))))
   (.region [⟨(.l 18), .mv (.p 2), none⟩,
     ⟨(.l 19), .bin .add (.l 18) (.c (.int .i64 (1))), none⟩,
     ⟨(.p 2), .mv (.l 19), none⟩]))
/-- stadion/stadionref01.IsName -/
def b68 : ICode :=
 .seq (.region [⟨(.p 1), .mv (.c (.bool false)), none⟩])
  (.seq (.seq (.region [⟨(.l 6), .mv (.p 0), none⟩,
      ⟨(.l 7), .len .str (.l 6), none⟩,
      ⟨(.l 8), .bin .lss (.l 7) (.c (.int .i64 (1))), none⟩,
      ⟨(.l 9), .mv (.l 8), none⟩,
      ⟨(.l 10), .mv (.p 0), some ((.l 9), false)⟩,
      ⟨(.l 11), .len .str (.l 10), some ((.l 9), false)⟩,
      ⟨(.l 12), .bin .gtr (.l 11) (.c (.int .i64 (24))), some ((.l 9), false)⟩,
      ⟨(.l 13), .pick (.l 9) (.c (.bool true)) (.l 12), none⟩])
    (.cond (.l 13)
     (.seq (.region [⟨(.p 1), .mv (.c (.bool false)), none⟩])
      (.ret))
     (.skip)))
   (.seq (.seq (.region [⟨(.p 2), .mv (.c (.int .i64 (0))), none⟩])
     (.block 0
      (.loop b68_0)))
    (.seq (.region [⟨(.p 1), .mv (.c (.bool true)), none⟩])
     (.ret))))
theorem ft68 : FT 68 = some ⟨56, [0, 2, 3, 4, 5], [.var (.p 1)], b68⟩ := by kernel_rfl

end Go.Ab.Ch6


/-
  Own work: chapter 6: names, contests and heights: their first errors, in plain Lean.
-/
namespace Go.Ab.Ch6

/-! Names. -/
def letterI (c : Int) : Bool := (decide (97 ≤ c) && decide (c ≤ 122)) || (decide (65 ≤ c) && decide (c ≤ 90))
def restI (c : Int) : Bool := letterI c || (decide (c = 95) || (decide (48 ≤ c) && decide (c ≤ 57)))
/-- Whether the byte at a place may stand there. -/
def okAt (i : Nat) (c : Int) : Bool := if i = 0 then letterI c else restI c
def nameB : Str → Nat → Bool
  | [], _ => true
  | b :: r, i => okAt i b.toNat && nameB r (i + 1)
def isName (s : Str) : Bool := nameB s 0 && decide (0 < s.length) && decide (s.length ≤ 24)
theorem nameB_drop {s : Str} {i : Nat} (h : i < s.length) : nameB (s.drop i) i = (okAt i (s[i]!).toNat && nameB (s.drop (i + 1)) (i + 1)) := by
  rw [List.drop_eq_getElem_cons h, getElem!_pos s i h, nameB]
theorem okAt_ge {i : Nat} {c : Int} (h : 128 ≤ c) : okAt i c = false := by
  unfold okAt restI letterI
  split <;> simp <;> omega

theorem okAt_iff {i : Nat} {c : Int} : okAt i c = true ↔ ((97 ≤ c ∧ c ≤ 122) ∨ (65 ≤ c ∧ c ≤ 90)) ∨ (i ≠ 0 ∧ (c = 95 ∨ (48 ≤ c ∧ c ≤ 57))) := by
  unfold okAt restI letterI
  split <;> simp_all
theorem okAt_no {i : Nat} {c : Int} (h : ¬ (((97 ≤ c ∧ c ≤ 122) ∨ (65 ≤ c ∧ c ≤ 90)) ∨ (i ≠ 0 ∧ (c = 95 ∨ (48 ≤ c ∧ c ≤ 57))))) : okAt i c = false := by
  cases h' : okAt i c
  · rfl
  · exact absurd (okAt_iff.1 h') h

end Go.Ab.Ch6


/-
  Own work: chapter 6: names.
-/
namespace Go.Ab.Ch6
variable {M : Mach} {cap : Option Nat}

/-! mark.IsName. -/
theorem loop67 (s : Str) (hl : s.length < 4611686018427387904) {Q : Ex → StW → Prop} : ∀ (r i : Nat) (a2 a3 a4 a6 : AV) (lo : List (Nat × AV)) (wr : List Nat), i + r = s.length →
    (nameB (s.drop i) i = true → ∀ a2 a3 a4 a6 lo J wr, Q (.exit 0) ⟨⟨[.str s, .bool false, a2, a3, a4, .ptr 0 0, a6], lo, J, []⟩, wr⟩) →
    (nameB (s.drop i) i = false → ∀ a2 a3 a4 a6 lo J wr, Q .ret ⟨⟨[.str s, .bool false, a2, a3, a4, .ptr 0 0, a6], lo, J, []⟩, wr⟩) →
    W M (.loop b67_0) ⟨⟨[.str s, .bool false, a2, a3, a4, .ptr 0 0, a6], lo, [] ++ [some (.iter s i)], []⟩, wr⟩ Q
  | 0, i, a2, a3, a4, a6, lo, wr, hi, h1, h2 => by
    obtain rfl : i = s.length := by omega
    refine W.loop ?_
    unfold b67_0
    repeat' first | (apply WO.nxF; exact rfl; omega) | apply W.seq | apply SQn | apply W.region | apply WO.nil | apply W.block | apply W.ret | apply W.exit | apply W.skip | apply SQr | apply SQe | apply BQn | apply BQr | apply BQe | (apply BQo; exact rfl) | apply LQe | apply LQr | apply LIe | apply LIr | (apply W.condT; exact rfl) | (apply W.condF; exact rfl) | (apply W.cond; exact rfl; all_goals intro _) | (apply WO.gT; exact rfl) | (apply WO.gF; exact rfl) | (apply WO.sT; exact rfl) | (apply WO.sF; exact rfl) | (apply WO.sU; exact rfl) | (apply WO.lss; exact rfl; exact rfl; all_goals first | (intro _; exfalso; omega) | intro _) | (apply WO.leq; exact rfl; exact rfl; all_goals first | (intro _; exfalso; omega) | intro _) | (apply WO.gtr; exact rfl; exact rfl; all_goals first | (intro _; exfalso; omega) | intro _) | (apply WO.geq; exact rfl; exact rfl; all_goals first | (intro _; exfalso; omega) | intro _) | (apply WO.eql; exact rfl; exact rfl; all_goals first | (intro _; exfalso; omega) | intro _) | (apply WO.neq; exact rfl; exact rfl; all_goals first | (intro _; exfalso; omega) | intro _) | (apply WO.pkT; exact rfl; exact rfl) | (apply WO.pkF; exact rfl; exact rfl) | (apply WO.seql; exact rfl; exact rfl; all_goals first | (intro h; exact absurd h (by decide)) | (intro h; exact absurd rfl h) | (intro h; contradiction) | intro _) | (apply WO.sneq; exact rfl; exact rfl; all_goals first | (intro h; exact absurd h (by decide)) | (intro h; exact absurd rfl h) | (intro h; contradiction) | intro _) | (apply WO.hlv; exact rfl; exact rfl; exact rfl) | (apply WO.hpv; exact rfl; exact rfl; exact rfl) | (apply WO.hnv; exact rfl; exact rfl; exact rfl) | (apply WO.pl; exact rfl; exact rfl) | (apply WO.pp; exact rfl; exact rfl)
    exact h1 (by simp [nameB]) _ _ _ _ _ _ _
  | r + 1, i, a2, a3, a4, a6, lo, wr, hi, h1, h2 => by
    have e := nameB_drop (s := s) (i := i) (by omega)
    have step : ∀ (c : Nat) (w : Nat), Utf8.decode ⟨s.toArray⟩ i = (c, w) → (okAt i c = true → w = 1 ∧ nameB (s.drop i) i = nameB (s.drop (i + 1)) (i + 1)) → (okAt i c = false → nameB (s.drop i) i = false) → W M (.loop b67_0) ⟨⟨[.str s, .bool false, a2, a3, a4, .ptr 0 0, a6], lo, [] ++ [some (.iter s i)], []⟩, wr⟩ Q := by
      intro c w hd ht hf
      refine W.loop ?_
      unfold b67_0
      have go : ∀ a2 a3 a4 a6 lo wr, okAt i c = true → LQ M b67_0 Q .normal ⟨⟨[.str s, .bool false, a2, a3, a4, .ptr 0 0, a6], lo, [] ++ [some (.iter s (i + w))], []⟩, wr⟩ := fun a2 a3 a4 a6 lo wr h => by
        obtain ⟨rfl, e1⟩ := ht h
        rw [e1] at h1 h2
        exact LQn (loop67 s hl r (i + 1) _ _ _ _ _ _ (by omega) h1 h2)
      have stop : ∀ a2 a3 a4 a6 lo J wr, okAt i c = false → Q .ret ⟨⟨[.str s, .bool false, a2, a3, a4, .ptr 0 0, a6], lo, J, []⟩, wr⟩ := fun a2 a3 a4 a6 lo J wr h => h2 (hf h) _ _ _ _ _ _ _
      repeat' first | (apply WO.nxT; exact rfl; omega; exact hd) | apply W.seq | apply SQn | apply W.region | apply WO.nil | apply W.block | apply W.ret | apply W.exit | apply W.skip | apply SQr | apply SQe | apply BQn | apply BQr | apply BQe | (apply BQo; exact rfl) | apply LQe | apply LQr | apply LIe | apply LIr | (apply W.condT; exact rfl) | (apply W.condF; exact rfl) | (apply W.cond; exact rfl; all_goals intro _) | (apply WO.gT; exact rfl) | (apply WO.gF; exact rfl) | (apply WO.sT; exact rfl) | (apply WO.sF; exact rfl) | (apply WO.sU; exact rfl) | (apply WO.lss; exact rfl; exact rfl; all_goals first | (intro _; exfalso; omega) | intro _) | (apply WO.leq; exact rfl; exact rfl; all_goals first | (intro _; exfalso; omega) | intro _) | (apply WO.gtr; exact rfl; exact rfl; all_goals first | (intro _; exfalso; omega) | intro _) | (apply WO.geq; exact rfl; exact rfl; all_goals first | (intro _; exfalso; omega) | intro _) | (apply WO.eql; exact rfl; exact rfl; all_goals first | (intro _; exfalso; omega) | intro _) | (apply WO.neq; exact rfl; exact rfl; all_goals first | (intro _; exfalso; omega) | intro _) | (apply WO.pkT; exact rfl; exact rfl) | (apply WO.pkF; exact rfl; exact rfl) | (apply WO.seql; exact rfl; exact rfl; all_goals first | (intro h; exact absurd h (by decide)) | (intro h; exact absurd rfl h) | (intro h; contradiction) | intro _) | (apply WO.sneq; exact rfl; exact rfl; all_goals first | (intro h; exact absurd h (by decide)) | (intro h; exact absurd rfl h) | (intro h; contradiction) | intro _) | (apply WO.hlv; exact rfl; exact rfl; exact rfl) | (apply WO.hpv; exact rfl; exact rfl; exact rfl) | (apply WO.hnv; exact rfl; exact rfl; exact rfl) | (apply WO.pl; exact rfl; exact rfl) | (apply WO.pp; exact rfl; exact rfl)
      all_goals first
        | exact go _ _ _ _ _ _ (okAt_iff.2 (by omega))
        | exact stop _ _ _ _ _ _ _ (okAt_no (by omega))
    by_cases hb : (s[i]!).toNat < 128
    · exact step _ _ (dec_ascii (by omega) hb) (fun h => ⟨rfl, by rw [e, h, Bool.true_and]⟩) (fun h => by rw [e, h, Bool.false_and])
    · obtain ⟨c, w, hd, hc⟩ := dec_other (s := s) (i := i) (by omega) hb
      refine step c w hd (fun h => ?_) (fun _ => ?_)
      · rw [okAt_ge (by omega)] at h; cases h
      · rw [e, okAt_ge (by omega), Bool.false_and]
theorem w67 (hft : M.FT = FT) (s : Str) (hl : s.length < 4611686018427387904) : Run M 67 [.str s] [] ⟨.bool (isName s), [], []⟩ := by
  refine run_of_W (by rw [hft]; exact ft67) (by simp) ?_
  unfold b67
  simp only [List.map_cons, List.map_nil, List.getElem?_cons_zero, List.getElem?_cons_succ, List.getElem?_nil, Option.getD_some, Option.getD_none]
  repeat' first | apply W.seq | apply SQn | apply W.region | apply WO.nil | apply W.block | apply W.ret | apply W.exit | apply W.skip | apply SQr | apply SQe | apply BQn | apply BQr | apply BQe | (apply BQo; exact rfl) | apply LQe | apply LQr | apply LIe | apply LIr | (apply W.condT; exact rfl) | (apply W.condF; exact rfl) | (apply W.cond; exact rfl; all_goals intro _) | (apply WO.gT; exact rfl) | (apply WO.gF; exact rfl) | (apply WO.sT; exact rfl) | (apply WO.sF; exact rfl) | (apply WO.sU; exact rfl) | (apply WO.leq; exact rfl; exact rfl; all_goals first | (intro _; exfalso; omega) | intro _) | (apply WO.gtr; exact rfl; exact rfl; all_goals first | (intro _; exfalso; omega) | intro _) | (apply WO.pkT; exact rfl; exact rfl) | (apply WO.pkF; exact rfl; exact rfl) | (apply WO.hlv; exact rfl; exact rfl; exact rfl) | (apply WO.hpv; exact rfl; exact rfl; exact rfl) | (apply WO.hnv; exact rfl; exact rfl; exact rfl) | (apply WO.pl; exact rfl; exact rfl) | (apply WO.pp; exact rfl; exact rfl)
  refine loop67 s hl s.length 0 _ _ _ _ _ _ (by omega) (fun h a2 a3 a4 a6 lo J wr => ?_) (fun h a2 a3 a4 a6 lo J wr => ?_)
  · rw [List.drop_zero] at h
    repeat' first | apply W.seq | apply SQn | apply W.region | apply WO.nil | apply W.block | apply W.ret | apply W.exit | apply W.skip | apply SQr | apply SQe | apply BQn | apply BQr | apply BQe | (apply BQo; exact rfl) | apply LQe | apply LQr | apply LIe | apply LIr | (apply W.condT; exact rfl) | (apply W.condF; exact rfl) | (apply W.cond; exact rfl; all_goals intro _) | (apply WO.gT; exact rfl) | (apply WO.gF; exact rfl) | (apply WO.sT; exact rfl) | (apply WO.sF; exact rfl) | (apply WO.sU; exact rfl) | (apply WO.leq; exact rfl; exact rfl; all_goals first | (intro _; exfalso; omega) | intro _) | (apply WO.gtr; exact rfl; exact rfl; all_goals first | (intro _; exfalso; omega) | intro _) | (apply WO.pkT; exact rfl; exact rfl) | (apply WO.pkF; exact rfl; exact rfl) | (apply WO.hlv; exact rfl; exact rfl; exact rfl) | (apply WO.hpv; exact rfl; exact rfl; exact rfl) | (apply WO.hnv; exact rfl; exact rfl; exact rfl) | (apply WO.pl; exact rfl; exact rfl) | (apply WO.pp; exact rfl; exact rfl)
    all_goals exact ⟨.inr rfl, rfl, _, rfl, congrArg AV.bool (by simp [isName, *] <;> omega), rfl⟩
  · rw [List.drop_zero] at h
    repeat' first | apply W.seq | apply SQn | apply W.region | apply WO.nil | apply W.block | apply W.ret | apply W.exit | apply W.skip | apply SQr | apply SQe | apply BQn | apply BQr | apply BQe | (apply BQo; exact rfl) | apply LQe | apply LQr | apply LIe | apply LIr | (apply W.condT; exact rfl) | (apply W.condF; exact rfl) | (apply W.cond; exact rfl; all_goals intro _) | (apply WO.gT; exact rfl) | (apply WO.gF; exact rfl) | (apply WO.sT; exact rfl) | (apply WO.sF; exact rfl) | (apply WO.sU; exact rfl) | (apply WO.leq; exact rfl; exact rfl; all_goals first | (intro _; exfalso; omega) | intro _) | (apply WO.gtr; exact rfl; exact rfl; all_goals first | (intro _; exfalso; omega) | intro _) | (apply WO.pkT; exact rfl; exact rfl) | (apply WO.pkF; exact rfl; exact rfl) | (apply WO.hlv; exact rfl; exact rfl; exact rfl) | (apply WO.hpv; exact rfl; exact rfl; exact rfl) | (apply WO.hnv; exact rfl; exact rfl; exact rfl) | (apply WO.pl; exact rfl; exact rfl) | (apply WO.pp; exact rfl; exact rfl)
    exact ⟨.inr rfl, rfl, _, rfl, congrArg AV.bool (by simp [isName, h]), rfl⟩

/-! field.when, within, first. -/
theorem w64 (hft : M.FT = FT) (t : Bool) (e : Int) : Run M 64 [.bool t, .int .i64 e] [] ⟨.int .i64 (if t then e else 0), [], []⟩ := by
  refine run_of_W (by rw [hft]; exact ft64) (by simp) ?_
  unfold b64
  simp only [List.map_cons, List.map_nil, List.getElem?_cons_zero, List.getElem?_cons_succ, List.getElem?_nil, Option.getD_some, Option.getD_none]
  cases t
  all_goals
    repeat' first | apply W.seq | apply SQn | apply W.region | apply WO.nil | apply W.block | apply W.ret | apply W.exit | apply W.skip | apply SQr | apply SQe | apply BQn | apply BQr | apply BQe | (apply BQo; exact rfl) | apply LQe | apply LQr | apply LIe | apply LIr | (apply W.condT; exact rfl) | (apply W.condF; exact rfl) | (apply W.cond; exact rfl; all_goals intro _) | (apply WO.pl; exact rfl; exact rfl) | (apply WO.pp; exact rfl; exact rfl)
  all_goals exact ⟨.inr rfl, rfl, _, rfl, rfl, rfl⟩
theorem w63 (hft : M.FT = FT) (h91 : ∀ t e h, M.ext 64 [.bool t, .int .i64 e] h = some ⟨.int .i64 (if t then e else 0), h, []⟩) (x lo hi : Int) : Run M 63 [.int .i64 x, .int .i64 lo, .int .i64 hi] [] ⟨.int .i64 (if outI x lo hi then 3 else 0), [], []⟩ := by
  have q1 := h91 true 3
  have q2 := h91 false 3
  refine run_of_W (by rw [hft]; exact ft63) (by simp) ?_
  unfold b63
  simp only [List.map_cons, List.map_nil, List.getElem?_cons_zero, List.getElem?_cons_succ, List.getElem?_nil, Option.getD_some, Option.getD_none]
  repeat' first | apply W.seq | apply SQn | apply W.region | apply WO.nil | apply W.block | apply W.ret | apply W.exit | apply W.skip | apply SQr | apply SQe | apply BQn | apply BQr | apply BQe | (apply BQo; exact rfl) | apply LQe | apply LQr | apply LIe | apply LIr | (apply W.condT; exact rfl) | (apply W.condF; exact rfl) | (apply W.cond; exact rfl; all_goals intro _) | (apply WO.gT; exact rfl) | (apply WO.gF; exact rfl) | (apply WO.sT; exact rfl) | (apply WO.sF; exact rfl) | (apply WO.sU; exact rfl) | (apply WO.lss; exact rfl; exact rfl; all_goals first | (intro _; exfalso; omega) | intro _) | (apply WO.gtr; exact rfl; exact rfl; all_goals first | (intro _; exfalso; omega) | intro _) | (apply WO.pkT; exact rfl; exact rfl) | (apply WO.pkF; exact rfl; exact rfl) | (apply WO.cll; exact rfl; exact rfl; first | exact q1 _ | exact q2 _) | (apply WO.clb; exact rfl; exact rfl; exact rfl; all_goals first | (intro h; exact absurd h (by decide)) | intro _) | (apply WO.cll; exact rfl; exact rfl; exact rfl) | (apply WO.pl; exact rfl; exact rfl) | (apply WO.pp; exact rfl; exact rfl)
  all_goals exact ⟨.inr rfl, rfl, _, rfl, congrArg (AV.int .i64) (by simp_all [outI]), rfl⟩

theorem loop61 (l : List Int) (hl : l.length < 4611686018427387904) {Q : Ex → StW → Prop} : ∀ (r i : Nat) (a2 : AV) (lo : List (Nat × AV)) (wr : List Nat), i + r = l.length →
    (firstNZ (l.drop i) = 0 → ∀ a2 lo wr, Q (.exit 0) ⟨⟨[.vs (ints l) l.length cap, .int .i64 0, a2, .vs (ints l) l.length cap, .int .i64 l.length, .int .i64 l.length], lo, [], []⟩, wr⟩) →
    (∀ a2 a5 lo wr, Q .ret ⟨⟨[.vs (ints l) l.length cap, .int .i64 (firstNZ (l.drop i)), a2, .vs (ints l) l.length cap, .int .i64 l.length, a5], lo, [], []⟩, wr⟩) →
    W M (.loop b61_0) ⟨⟨[.vs (ints l) l.length cap, .int .i64 0, a2, .vs (ints l) l.length cap, .int .i64 l.length, .int .i64 i], lo, [], []⟩, wr⟩ Q
  | 0, i, a2, lo, wr, hi, h1, h2 => by
    obtain rfl : i = l.length := by omega
    refine W.loop ?_
    unfold b61_0
    repeat' first | apply W.seq | apply SQn | apply W.region | apply WO.nil | apply W.block | apply W.ret | apply W.exit | apply W.skip | apply SQr | apply SQe | apply BQn | apply BQr | apply BQe | (apply BQo; exact rfl) | apply LQe | apply LQr | apply LIe | apply LIr | (apply W.condT; exact rfl) | (apply W.condF; exact rfl) | (apply W.cond; exact rfl; all_goals intro _) | (apply WO.lss; exact rfl; exact rfl; all_goals first | (intro _; exfalso; omega) | intro _) | (apply WO.neq; exact rfl; exact rfl; all_goals first | (intro _; exfalso; omega) | intro _) | (apply WO.add; exact rfl; exact rfl; omega) | (apply WO.iav; exact rfl; exact rfl; omega) | (apply WO.ias; exact rfl; exact rfl; omega) | (apply WO.lda; exact rfl; exact fun _ => rfl; (first | omega | (simp only [List.length_set]; omega) | (simp; omega)); decide; exact rfl; case ia => infer_instance) | (apply WO.lsa; exact rfl; (first | exact rfl | assumption | exact at_new | (apply at_old; assumption) | (apply at_put; first | assumption | (simp only [put_length]; assumption))); exact fun _ => rfl; (first | omega | (simp only [List.length_set]; omega) | (simp; omega)); decide; exact rfl; case ia => infer_instance) | (apply WO.sneq; exact rfl; exact rfl; all_goals first | (intro h; exact absurd h (by decide)) | (intro h; exact absurd rfl h) | (intro h; contradiction) | intro _) | (apply WO.hlv; exact rfl; exact rfl; exact rfl) | (apply WO.hpv; exact rfl; exact rfl; exact rfl) | (apply WO.hnv; exact rfl; exact rfl; exact rfl) | (apply WO.pl; exact rfl; exact rfl) | (apply WO.pp; exact rfl; exact rfl)
    exact h1 (by simp [firstNZ]) _ _ _
  | r + 1, i, a2, lo, wr, hi, h1, h2 => by
    have e := firstNZ_drop (l := l) (i := (i : Int).toNat) (by omega)
    rw [Int.toNat_natCast] at e
    refine W.loop ?_
    unfold b61_0
    repeat' first | apply W.seq | apply SQn | apply W.region | apply WO.nil | apply W.block | apply W.ret | apply W.exit | apply W.skip | apply SQr | apply SQe | apply BQn | apply BQr | apply BQe | (apply BQo; exact rfl) | apply LQe | apply LQr | apply LIe | apply LIr | (apply W.condT; exact rfl) | (apply W.condF; exact rfl) | (apply W.cond; exact rfl; all_goals intro _) | (apply WO.lss; exact rfl; exact rfl; all_goals first | (intro _; exfalso; omega) | intro _) | (apply WO.neq; exact rfl; exact rfl; all_goals first | (intro _; exfalso; omega) | intro _) | (apply WO.add; exact rfl; exact rfl; omega) | (apply WO.iav; exact rfl; exact rfl; omega) | (apply WO.ias; exact rfl; exact rfl; omega) | (apply WO.lda; exact rfl; exact fun _ => rfl; (first | omega | (simp only [List.length_set]; omega) | (simp; omega)); decide; exact rfl; case ia => infer_instance) | (apply WO.lsa; exact rfl; (first | exact rfl | assumption | exact at_new | (apply at_old; assumption) | (apply at_put; first | assumption | (simp only [put_length]; assumption))); exact fun _ => rfl; (first | omega | (simp only [List.length_set]; omega) | (simp; omega)); decide; exact rfl; case ia => infer_instance) | (apply WO.sneq; exact rfl; exact rfl; all_goals first | (intro h; exact absurd h (by decide)) | (intro h; exact absurd rfl h) | (intro h; contradiction) | intro _) | (apply WO.hlv; exact rfl; exact rfl; exact rfl) | (apply WO.hpv; exact rfl; exact rfl; exact rfl) | (apply WO.hnv; exact rfl; exact rfl; exact rfl) | (apply WO.pl; exact rfl; exact rfl) | (apply WO.pp; exact rfl; exact rfl)
    · rename_i he
      rw [Int.toNat_natCast] at he
      rw [if_neg he] at e
      rw [e] at h2
      exact h2 _ _ _ _
    · rename_i he
      rw [Int.toNat_natCast] at he
      rw [if_pos he] at e
      rw [e] at h1 h2
      exact LQn (loop61 l hl r (i + 1) _ _ _ (by omega) h1 h2)
theorem w61 (hft : M.FT = FT) (l : List Int) (hl : l.length < 4611686018427387904) : Run M 61 [.vs (ints l) l.length cap] [] ⟨.int .i64 (firstNZ l), [], []⟩ := by
  refine run_of_W (by rw [hft]; exact ft61) (by simp) ?_
  unfold b61
  simp only [List.map_cons, List.map_nil, List.getElem?_cons_zero, List.getElem?_cons_succ, List.getElem?_nil, Option.getD_some, Option.getD_none]
  repeat' first | apply W.seq | apply SQn | apply W.region | apply WO.nil | apply W.block | apply W.ret | apply W.exit | apply W.skip | apply SQr | apply SQe | apply BQn | apply BQr | apply BQe | (apply BQo; exact rfl) | apply LQe | apply LQr | apply LIe | apply LIr | (apply W.condT; exact rfl) | (apply W.condF; exact rfl) | (apply W.cond; exact rfl; all_goals intro _) | (apply WO.pl; exact rfl; exact rfl) | (apply WO.pp; exact rfl; exact rfl)
  refine loop61 l hl l.length 0 _ _ _ (by omega) (fun h a2 lo wr => ?_) (fun a2 a5 lo wr => ?_)
  · repeat' first | apply W.seq | apply SQn | apply W.region | apply WO.nil | apply W.block | apply W.ret | apply W.exit | apply W.skip | apply SQr | apply SQe | apply BQn | apply BQr | apply BQe | (apply BQo; exact rfl) | apply LQe | apply LQr | apply LIe | apply LIr | (apply W.condT; exact rfl) | (apply W.condF; exact rfl) | (apply W.cond; exact rfl; all_goals intro _) | (apply WO.pl; exact rfl; exact rfl) | (apply WO.pp; exact rfl; exact rfl)
    exact ⟨.inr rfl, rfl, _, rfl, by rw [List.drop_zero] at h; rw [h]; rfl, rfl⟩
  · repeat' first | apply W.seq | apply SQn | apply W.region | apply WO.nil | apply W.block | apply W.ret | apply W.exit | apply W.skip | apply SQr | apply SQe | apply BQn | apply BQr | apply BQe | (apply BQo; exact rfl) | apply LQe | apply LQr | apply LIe | apply LIr | (apply W.condT; exact rfl) | (apply W.condF; exact rfl) | (apply W.cond; exact rfl; all_goals intro _) | (apply WO.pl; exact rfl; exact rfl) | (apply WO.pp; exact rfl; exact rfl)
    exact ⟨.inr rfl, rfl, _, rfl, rfl, rfl⟩

end Go.Ab.Ch6


/-
  Own work: chapter 6: names of a list, one by one.
-/
namespace Go.Ab.Ch6
variable {M : Mach} {cap : Option Nat}

/-! The reference's names. -/
theorem loop68 (s : Str) (hl : s.length < 1000000) {Q : Ex → StW → Prop} : ∀ (r i : Nat) (a3 a4 : AV) (lo : List (Nat × AV)), i + r = s.length →
    (nameB (s.drop i) i = true → ∀ a3 a4 lo, Q (.exit 0) ⟨⟨[.str s, .bool false, .int .i64 s.length, a3, a4], lo, [], []⟩, []⟩) →
    (nameB (s.drop i) i = false → ∀ a2 a3 a4 lo, Q .ret ⟨⟨[.str s, .bool false, a2, a3, a4], lo, [], []⟩, []⟩) →
    W M (.loop b68_0) ⟨⟨[.str s, .bool false, .int .i64 i, a3, a4], lo, [], []⟩, []⟩ Q
  | 0, i, a3, a4, lo, hi, h1, h2 => by
    obtain rfl : i = s.length := by omega
    refine W.loop ?_
    unfold b68_0
    repeat' first | apply W.seq | apply SQn | apply W.region | apply WO.nil | apply W.block | apply W.ret | apply W.exit | apply W.skip | apply SQr | apply SQe | apply BQn | apply BQr | apply BQe | (apply BQo; exact rfl) | apply LQe | apply LQr | apply LIe | apply LIr | (apply W.condT; exact rfl) | (apply W.condF; exact rfl) | (apply W.cond; exact rfl; all_goals intro _) | (apply WO.gT; exact rfl) | (apply WO.gF; exact rfl) | (apply WO.sT; exact rfl) | (apply WO.sF; exact rfl) | (apply WO.sU; exact rfl) | (apply WO.lss; exact rfl; exact rfl; all_goals first | (intro _; exfalso; omega) | intro _) | (apply WO.leq; exact rfl; exact rfl; all_goals first | (intro _; exfalso; omega) | intro _) | (apply WO.geq; exact rfl; exact rfl; all_goals first | (intro _; exfalso; omega) | intro _) | (apply WO.eql; exact rfl; exact rfl; all_goals first | (intro _; exfalso; omega) | intro _) | (apply WO.pkT; exact rfl; exact rfl) | (apply WO.pkF; exact rfl; exact rfl) | (apply WO.add; exact rfl; exact rfl; omega) | (apply WO.cat; exact rfl; exact rfl; first | omega | (simp only [List.length_append, List.length_cons, List.length_nil]; omega) | (simp; omega)) | (apply WO.idx; exact rfl; exact rfl; omega) | (apply WO.seql; exact rfl; exact rfl; all_goals first | (intro h; exact absurd h (by decide)) | (intro h; exact absurd rfl h) | (intro h; contradiction) | intro _) | (apply WO.pl; exact rfl; exact rfl) | (apply WO.pp; exact rfl; exact rfl)
    exact h1 (by simp [nameB]) _ _ _
  | r + 1, i, a3, a4, lo, hi, h1, h2 => by
    have e := nameB_drop (s := s) (i := i) (by omega)
    have ei : ((i : Int)).toNat = i := by omega
    have hc := (s[i]!).toNat_lt
    have go : ∀ a3 a4 lo, okAt i (s[i]!).toNat = true → LQ M b68_0 Q .normal ⟨⟨[.str s, .bool false, .int .i64 ((i : Int) + 1), a3, a4], lo, [], []⟩, []⟩ := fun a3 a4 lo h => by
      rw [e, h, Bool.true_and] at h1 h2
      exact LQn (loop68 s hl r (i + 1) _ _ _ (by omega) h1 h2)
    have stop : ∀ a3 a4 lo, okAt i (s[i]!).toNat = false → Q .ret ⟨⟨[.str s, .bool false, .int .i64 i, a3, a4], lo, [], []⟩, []⟩ := fun a3 a4 lo h => h2 (by rw [e, h, Bool.false_and]) _ _ _ _
    have hv : (St.mk [.str s] [] [] []).opd (.p 0) = some (.str s) := rfl
    refine W.loop ?_
    unfold b68_0
    rw [← ei] at go stop
    repeat' first | apply W.seq | apply SQn | apply W.region | apply WO.nil | apply W.block | apply W.ret | apply W.exit | apply W.skip | apply SQr | apply SQe | apply BQn | apply BQr | apply BQe | (apply BQo; exact rfl) | apply LQe | apply LQr | apply LIe | apply LIr | (apply W.condT; exact rfl) | (apply W.condF; exact rfl) | (apply W.cond; exact rfl; all_goals intro _) | (apply WO.gT; exact rfl) | (apply WO.gF; exact rfl) | (apply WO.sT; exact rfl) | (apply WO.sF; exact rfl) | (apply WO.sU; exact rfl) | (apply WO.lss; exact rfl; exact rfl; all_goals first | (intro _; exfalso; omega) | intro _) | (apply WO.leq; exact rfl; exact rfl; all_goals first | (intro _; exfalso; omega) | intro _) | (apply WO.geq; exact rfl; exact rfl; all_goals first | (intro _; exfalso; omega) | intro _) | (apply WO.eql; exact rfl; exact rfl; all_goals first | (intro _; exfalso; omega) | intro _) | (apply WO.pkT; exact rfl; exact rfl) | (apply WO.pkF; exact rfl; exact rfl) | (apply WO.add; exact rfl; exact rfl; omega) | (apply WO.cat; exact rfl; exact rfl; first | omega | (simp only [List.length_append, List.length_cons, List.length_nil]; omega) | (simp; omega)) | (apply WO.idx; exact rfl; exact rfl; omega) | (apply WO.seql; exact rfl; exact rfl; all_goals first | (intro h; exact absurd h (by decide)) | (intro h; exact absurd rfl h) | (intro h; contradiction) | intro _) | (apply WO.pl; exact rfl; exact rfl) | (apply WO.pp; exact rfl; exact rfl)
    all_goals first
      | exact go _ _ _ (okAt_iff.2 (by omega))
      | exact stop _ _ _ (okAt_no (by omega))
theorem w68 (hft : M.FT = FT) (s : Str) (hl : s.length < 1000000) : Run M 68 [.str s] [] ⟨.bool (isName s), [], []⟩ := by
  refine run_of_W (by rw [hft]; exact ft68) (by simp) ?_
  unfold b68
  simp only [List.map_cons, List.map_nil, List.getElem?_cons_zero, List.getElem?_cons_succ, List.getElem?_nil, Option.getD_some, Option.getD_none]
  by_cases hb : s.length < 1 ∨ 24 < s.length
  · repeat' first | apply W.seq | apply SQn | apply W.region | apply WO.nil | apply W.block | apply W.ret | apply W.exit | apply W.skip | apply SQr | apply SQe | apply BQn | apply BQr | apply BQe | (apply BQo; exact rfl) | apply LQe | apply LQr | apply LIe | apply LIr | (apply W.condT; exact rfl) | (apply W.condF; exact rfl) | (apply W.cond; exact rfl; all_goals intro _) | (apply WO.gT; exact rfl) | (apply WO.gF; exact rfl) | (apply WO.sT; exact rfl) | (apply WO.sF; exact rfl) | (apply WO.sU; exact rfl) | (apply WO.lss; exact rfl; exact rfl; all_goals first | (intro _; exfalso; omega) | intro _) | (apply WO.gtr; exact rfl; exact rfl; all_goals first | (intro _; exfalso; omega) | intro _) | (apply WO.pkT; exact rfl; exact rfl) | (apply WO.pkF; exact rfl; exact rfl) | (apply WO.pl; exact rfl; exact rfl) | (apply WO.pp; exact rfl; exact rfl)
    all_goals exact ⟨.inr rfl, rfl, _, rfl, congrArg AV.bool (by simp [isName]; omega), rfl⟩
  · repeat' first | apply W.seq | apply SQn | apply W.region | apply WO.nil | apply W.block | apply W.ret | apply W.exit | apply W.skip | apply SQr | apply SQe | apply BQn | apply BQr | apply BQe | (apply BQo; exact rfl) | apply LQe | apply LQr | apply LIe | apply LIr | (apply W.condT; exact rfl) | (apply W.condF; exact rfl) | (apply W.cond; exact rfl; all_goals intro _) | (apply WO.gT; exact rfl) | (apply WO.gF; exact rfl) | (apply WO.sT; exact rfl) | (apply WO.sF; exact rfl) | (apply WO.sU; exact rfl) | (apply WO.lss; exact rfl; exact rfl; all_goals first | (intro _; exfalso; omega) | intro _) | (apply WO.gtr; exact rfl; exact rfl; all_goals first | (intro _; exfalso; omega) | intro _) | (apply WO.pkT; exact rfl; exact rfl) | (apply WO.pkF; exact rfl; exact rfl) | (apply WO.pl; exact rfl; exact rfl) | (apply WO.pp; exact rfl; exact rfl)
    refine loop68 s hl s.length 0 _ _ _ (by omega) (fun h a3 a4 lo => ?_) (fun h a2 a3 a4 lo => ?_)
    · rw [List.drop_zero] at h
      repeat' first | apply W.seq | apply SQn | apply W.region | apply WO.nil | apply W.block | apply W.ret | apply W.exit | apply W.skip | apply SQr | apply SQe | apply BQn | apply BQr | apply BQe | (apply BQo; exact rfl) | apply LQe | apply LQr | apply LIe | apply LIr | (apply W.condT; exact rfl) | (apply W.condF; exact rfl) | (apply W.cond; exact rfl; all_goals intro _) | (apply WO.gT; exact rfl) | (apply WO.gF; exact rfl) | (apply WO.sT; exact rfl) | (apply WO.sF; exact rfl) | (apply WO.sU; exact rfl) | (apply WO.lss; exact rfl; exact rfl; all_goals first | (intro _; exfalso; omega) | intro _) | (apply WO.gtr; exact rfl; exact rfl; all_goals first | (intro _; exfalso; omega) | intro _) | (apply WO.pkT; exact rfl; exact rfl) | (apply WO.pkF; exact rfl; exact rfl) | (apply WO.pl; exact rfl; exact rfl) | (apply WO.pp; exact rfl; exact rfl)
      exact ⟨.inr rfl, rfl, _, rfl, congrArg AV.bool (by simp [isName, h]; omega), rfl⟩
    · rw [List.drop_zero] at h
      repeat' first | apply W.seq | apply SQn | apply W.region | apply WO.nil | apply W.block | apply W.ret | apply W.exit | apply W.skip | apply SQr | apply SQe | apply BQn | apply BQr | apply BQe | (apply BQo; exact rfl) | apply LQe | apply LQr | apply LIe | apply LIr | (apply W.condT; exact rfl) | (apply W.condF; exact rfl) | (apply W.cond; exact rfl; all_goals intro _) | (apply WO.gT; exact rfl) | (apply WO.gF; exact rfl) | (apply WO.sT; exact rfl) | (apply WO.sF; exact rfl) | (apply WO.sU; exact rfl) | (apply WO.lss; exact rfl; exact rfl; all_goals first | (intro _; exfalso; omega) | intro _) | (apply WO.gtr; exact rfl; exact rfl; all_goals first | (intro _; exfalso; omega) | intro _) | (apply WO.pkT; exact rfl; exact rfl) | (apply WO.pkF; exact rfl; exact rfl) | (apply WO.pl; exact rfl; exact rfl) | (apply WO.pp; exact rfl; exact rfl)
      exact ⟨.inr rfl, rfl, _, rfl, congrArg AV.bool (by simp [isName, h]), rfl⟩

end Go.Ab.Ch6


/-
  Own work: chapter 6: names of a list by the program; contests.
-/
namespace Go.Ab.Ch6
variable {M : Mach} {cap : Option Nat}

structure CF (M : Mach) : Prop where
  ft : M.FT = FT
  c64 : ∀ t e h, M.ext 64 [.bool t, .int .i64 e] h = some ⟨.int .i64 (if t then e else 0), h, []⟩
  c63 : ∀ x lo hi h, M.ext 63 [.int .i64 x, .int .i64 lo, .int .i64 hi] h = some ⟨.int .i64 (if outI x lo hi then 3 else 0), h, []⟩
  c61 : ∀ v l h, intsAt h v = some l → l.length < 4611686018427387904 → M.ext 61 [v] h = some ⟨.int .i64 (firstNZ l), h, []⟩
theorem CF.q2 (C : CF M) (H : Heap) (a b : Int) : M.ext 61 [.sl H.length 0 2 1 (some 2)] (H ++ [some (.cells [.int .i64 a, .int .i64 b] 30)]) = some ⟨.int .i64 (firstNZ [a, b]), H ++ [some (.cells [.int .i64 a, .int .i64 b] 30)], []⟩ := by
  have e : Heap.at (H ++ [some (.cells [.int .i64 a, .int .i64 b] 30)]) H.length = some (.cells (ints [a, b]) 30) := at_new
  exact C.c61 _ [a, b] _ (ints_at e rfl) (by simp)
theorem CF.q3 (C : CF M) (H : Heap) (a b c : Int) : M.ext 61 [.sl H.length 0 3 1 (some 3)] (H ++ [some (.cells [.int .i64 a, .int .i64 b, .int .i64 c] 30)]) = some ⟨.int .i64 (firstNZ [a, b, c]), H ++ [some (.cells [.int .i64 a, .int .i64 b, .int .i64 c] 30)], []⟩ := by
  have e : Heap.at (H ++ [some (.cells [.int .i64 a, .int .i64 b, .int .i64 c] 30)]) H.length = some (.cells (ints [a, b, c]) 30) := at_new
  exact C.c61 _ [a, b, c] _ (ints_at e rfl) (by simp)

end Go.Ab.Ch6


/-
  Own work: chapter 6: the errors of contests and of heights, by both.
-/
namespace Go.Ab.Ch6
variable {M : Mach} {cap : Option Nat}

end Go.Ab.Ch6


/-
  Own work: chapter 6: the errors of heights, by both.
-/
namespace Go.Ab.Ch6
variable {M : Mach} {cap c1 c2 : Option Nat}

end Go.Ab.Ch6


/-
  Own work: chapter 6: the law FieldChecks.
-/
namespace Go.Ab.Ch6
variable {M : Mach}

end Go.Ab.Ch6


/-
  Own work: the contracts of FieldChecks as a table.
-/
namespace Go.Ab.Ch6
open Go.Proofs

def specAwake : Spec := spec0 [] (.bool true)
theorem awake10 : SpecOK Tryz.prog gl 10 specAwake := spec0_ok gl_top rfl rfl oAwake
def specWhen : Spec := fun
  | [.bool t, .int .i64 e], h => some ⟨.int .i64 (if t then e else 0), h, []⟩
  | _, _ => none
theorem when64 : SpecOK Tryz.prog gl 64 specWhen := by
  intro xs h r hq
  unfold specWhen at hq
  split at hq
  · cases hq
    exact ent_run0 seat tab_nil (w64 (M := mach Tryz.prog FT []) mach_ft _ _) (FrL.same rfl) rfl (.inl rfl)
  · cases hq
def specRange : Spec := fun
  | [.int .i64 x, .int .i64 lo, .int .i64 hi], h => some ⟨.int .i64 (if outI x lo hi then 3 else 0), h, []⟩
  | _, _ => none
theorem range63 : SpecOK Tryz.prog gl 63 specRange := by
  intro xs h r hq
  unfold specRange at hq
  split at hq
  · cases hq
    exact ent_run0 seat (T := [(64, specWhen)]) (tab_cons when64 tab_nil) (w63 mach_ft (fun _ _ _ => by rw [mach_ext]; rfl) _ _ _) (FrL.same rfl) rfl (.inl rfl)
  · cases hq
def specFirst : Spec := fun
  | [v], h => match intsAt h v with
    | some l => if l.length < 4611686018427387904 then some ⟨.int .i64 (firstNZ l), h, []⟩ else none
    | none => none
  | _, _ => none
theorem first61 : SpecOK Tryz.prog gl 61 specFirst := by
  intro xs h r hq
  unfold specFirst at hq
  split at hq
  · split at hq
    · rename_i l hl
      split at hq
      · rename_i hn
        cases hq
        obtain ⟨S, cap, hf⟩ := (intsAt_sl hl).fr (fun _ => rfl)
        exact ent_run0 seat tab_nil (w61 (M := mach Tryz.prog FT []) mach_ft l hn) (.cons hf .nil) rfl (.inr rfl)
      · cases hq
    · cases hq
  · cases hq
def specName : Spec := fun
  | [.str s], h => if s.length < 1000000 then some ⟨.bool (isName s), h, []⟩ else none
  | _, _ => none
theorem name67 : SpecOK Tryz.prog gl 67 specName := by
  intro xs h r hq
  unfold specName at hq
  split at hq
  · split at hq
    · rename_i hn
      cases hq
      exact ent_run0 seat tab_nil (w67 (M := mach Tryz.prog FT []) mach_ft _ (by omega)) (FrL.same rfl) rfl (.inl rfl)
    · cases hq
  · cases hq
theorem name68 : SpecOK Tryz.prog gl 68 specName := by
  intro xs h r hq
  unfold specName at hq
  split at hq
  · split at hq
    · rename_i hn
      cases hq
      exact ent_run0 seat tab_nil (w68 (M := mach Tryz.prog FT []) mach_ft _ hn) (FrL.same rfl) rfl (.inl rfl)
    · cases hq
  · cases hq
theorem cf {T : List (Nat × Spec)} : CF (mach Tryz.prog FT ((64, specWhen) :: (63, specRange) :: (61, specFirst) :: T)) where
  ft := mach_ft
  c64 _ _ _ := by rw [mach_ext]; rfl
  c63 _ _ _ _ := by rw [mach_ext]; rfl
  c61 v l h hl hn := by
    rw [mach_ext]
    show specFirst [v] h = _
    simp only [specFirst, hl, if_pos hn]

def T68 : List (Nat × Spec) := [(68, specName)]
end Go.Ab.Ch6


/-
  Own work: the code of the functions that FieldActs needs.
-/
namespace Go.Ab.Ch6
set_option maxRecDepth 1000000
def b4_0 : ICode :=
 .seq (.region [⟨(.l 92), .bin .lss (.p 15) (.p 14), none⟩])
  (.seq (.cond (.l 92)
    (.skip)
    (.exit 2))
   (.seq (.block 3
     (.seq (.region [⟨(.l 93), .mv (.p 15), none⟩,
        ⟨(.p 9), .mv (.l 93), none⟩])
      (.seq (.region [⟨(.l 94), .mv (.p 0), none⟩,
         ⟨(.l 95), .mv (.p 9), none⟩,
         ⟨(.l 96), .iaddr none 3 (.l 94) (.l 95), none⟩,
         ⟨(.l 97), .load 3 true (.l 96), none⟩,
         ⟨(.p 10), .alloc 40 [.str [], .str [], .int .i64 (0)], none⟩,
         ⟨.no, .store 3 (.p 10) (.l 97), none⟩])
       (.seq (.seq (.region [⟨(.l 98), .mv (.p 9), none⟩,
           ⟨(.l 99), .bin .add (.l 98) (.c (.int .i64 (1))), none⟩,
           ⟨(.l 100), .mv (.p 1), none⟩,
           ⟨(.l 101), .bin .eql (.l 99) (.l 100), none⟩])
         (.cond (.l 101)
          (.region [⟨(.l 102), .load 3 true (.p 3), none⟩,
            ⟨.no, .store 3 (.p 10) (.l 102), none⟩])
          (.skip)))
        (.seq (.draw [(⟨(.l 103), .mv (.p 6), none⟩, []),
           (⟨(.l 104), .mv (.p 9), none⟩, [0]),
           (⟨(.l 105), .iaddr none 3 (.l 103) (.l 104), none⟩, []),
           (⟨(.l 106), .load 3 true (.l 105), none⟩, []),
           (⟨(.l 107), .load 3 true (.p 10), none⟩, [0, 1, 2, 3]),
           (⟨(.l 108), .eq true (.strct [(0, 1, false, .str), (1, 1, false, .str), (2, 1, false, .int)]) (.l 106) (.l 107), none⟩, [])])
         (.cond (.l 108)
          (.seq (.region [⟨(.p 4), .mv (.c (.bool false)), none⟩])
           (.ret))
          (.skip)))))))
    (.region [⟨(.l 109), .bin .add (.p 15) (.c (.int .i64 (1))), none⟩,
      ⟨(.p 15), .mv (.l 109), none⟩])))
def b4_1 : ICode :=
 .seq (.region [⟨(.l 27), .bin .lss (.p 13) (.p 12), none⟩])
  (.seq (.cond (.l 27)
    (.skip)
    (.exit 0))
   (.seq (.block 1
     (.seq (.region [⟨(.l 28), .iaddr none 1 (.p 11) (.p 13), none⟩,
        ⟨(.l 29), .load 1 false (.l 28), none⟩,
        ⟨(.p 5), .mv (.l 29), none⟩])
      (.seq (.seq (.draw [(⟨(.l 30), .load 3 true (.p 3), none⟩, []),
          (⟨(.l 31), .mv (.p 5), none⟩, [0]),
          (⟨(.l 32), .call (.c (.fn (.func 16) [] [])) [(.l 30), (.l 31)], none⟩, []),
          (⟨(.l 33), .load 3 true (.p 3), none⟩, [0, 1, 2]),
          (⟨(.l 34), .mv (.p 5), none⟩, [0, 1, 2, 3]),
          (⟨(.l 35), .call (.c (.fn (.func 17) [] [])) [(.l 33), (.l 34)], none⟩, []),
          (⟨(.l 36), .bin .neq (.l 32) (.l 35), none⟩, [])])
        (.cond (.l 36)
         (.seq (.region [⟨(.p 4), .mv (.c (.bool false)), none⟩])
          (.ret))
         (.skip)))
       (.seq (.draw [(⟨(.l 38), .mv (.p 0), none⟩, []),
          (⟨(.l 39), .call (.c (.fn (.func 19) [] [])) [(.l 38)], none⟩, []),
          (⟨(.l 40), .mv (.p 1), none⟩, [0, 1]),
          (⟨(.l 41), .load 3 true (.p 3), none⟩, [0, 1, 2]),
          (⟨(.l 42), .mv (.p 5), none⟩, [0, 1, 2, 3]),
          (⟨(.l 43), .call (.c (.fn (.func 18) [] [])) [(.l 39), (.l 40), (.l 41), (.l 42)], none⟩, []),
          (⟨(.l 37), .mv (.l 43), none⟩, []),
          (⟨(.l 44), .extract 0 (.l 37), none⟩, []),
          (⟨(.l 45), .extract 1 (.l 37), none⟩, [7]),
          (⟨(.p 6), .mv (.l 44), none⟩, [8]),
          (⟨(.p 7), .mv (.l 45), none⟩, [])])
        (.seq (.draw [(⟨(.l 46), .mv (.p 0), none⟩, []),
           (⟨(.l 47), .mv (.p 5), none⟩, [0]),
           (⟨(.l 48), .call (.c (.fn (.func 21) [] [])) [(.l 46), (.l 47)], none⟩, []),
           (⟨(.l 49), .load 3 true (.p 3), none⟩, [0, 1, 2]),
           (⟨(.l 50), .mv (.p 5), none⟩, [0, 1, 2, 3]),
           (⟨(.l 51), .call (.c (.fn (.func 17) [] [])) [(.l 49), (.l 50)], none⟩, []),
           (⟨(.l 52), .bslice 3 2 1 [.int .i64 (0)] [(0, 1, (.l 48)), (1, 1, (.l 51))], none⟩, []),
           (⟨(.l 53), .call (.c (.fn (.func 20) [] [])) [(.l 52)], none⟩, []),
           (⟨(.p 8), .mv (.l 53), none⟩, [])])
         (.seq (.seq (.region [⟨(.l 54), .mv (.p 8), none⟩,
             ⟨(.l 55), .bin .eql (.l 54) (.c (.int .i64 (0))), none⟩,
             ⟨(.l 56), .mv (.l 55), none⟩,
             ⟨(.l 57), .mv (.p 1), some ((.l 56), true)⟩,
             ⟨(.l 58), .bin .lss (.l 57) (.c (.int .i64 (1))), some ((.l 56), true)⟩,
             ⟨(.l 59), .mv (.l 58), some ((.l 56), true)⟩,
             ⟨(.l 60), .mv (.p 1), some ((.l 59), false)⟩,
             ⟨(.l 61), .mv (.p 0), some ((.l 59), false)⟩,
             ⟨(.l 62), .len .sl (.l 61), some ((.l 59), false)⟩,
             ⟨(.l 63), .bin .gtr (.l 60) (.l 62), some ((.l 59), false)⟩,
             ⟨(.l 64), .pick (.l 59) (.c (.bool true)) (.l 63), some ((.l 56), true)⟩,
             ⟨(.l 65), .pick (.l 56) (.l 64) (.c (.bool false)), none⟩])
           (.cond (.l 65)
            (.region [⟨(.p 8), .mv (.c (.int .i64 (10))), none⟩])
            (.skip)))
          (.seq (.seq (.region [⟨(.l 66), .mv (.p 7), none⟩,
              ⟨(.l 67), .mv (.p 8), none⟩,
              ⟨(.l 68), .bin .neq (.l 66) (.l 67), none⟩,
              ⟨(.l 69), .mv (.l 68), none⟩,
              ⟨(.l 70), .mv (.p 8), some ((.l 69), false)⟩,
              ⟨(.l 71), .bin .neq (.l 70) (.c (.int .i64 (0))), some ((.l 69), false)⟩,
              ⟨(.l 72), .mv (.l 71), some ((.l 69), false)⟩,
              ⟨(.l 73), .mv (.p 6), some ((.l 72), true)⟩,
              ⟨(.l 74), .len .sl (.l 73), some ((.l 72), true)⟩,
              ⟨(.l 75), .bin .neq (.l 74) (.c (.int .i64 (0))), some ((.l 72), true)⟩,
              ⟨(.l 76), .pick (.l 72) (.l 75) (.c (.bool false)), some ((.l 69), false)⟩,
              ⟨(.l 77), .pick (.l 69) (.c (.bool true)) (.l 76), none⟩,
              ⟨(.l 78), .mv (.l 77), none⟩,
              ⟨(.l 79), .mv (.p 8), some ((.l 78), false)⟩,
              ⟨(.l 80), .bin .eql (.l 79) (.c (.int .i64 (0))), some ((.l 78), false)⟩,
              ⟨(.l 81), .mv (.l 80), some ((.l 78), false)⟩,
              ⟨(.l 82), .mv (.p 6), some ((.l 81), true)⟩,
              ⟨(.l 83), .len .sl (.l 82), some ((.l 81), true)⟩,
              ⟨(.l 84), .mv (.p 0), some ((.l 81), true)⟩,
              ⟨(.l 85), .len .sl (.l 84), some ((.l 81), true)⟩,
              ⟨(.l 86), .bin .neq (.l 83) (.l 85), some ((.l 81), true)⟩,
              ⟨(.l 87), .pick (.l 81) (.l 86) (.c (.bool false)), some ((.l 78), false)⟩,
              ⟨(.l 88), .pick (.l 78) (.c (.bool true)) (.l 87), none⟩])
            (.cond (.l 88)
             (.seq (.region [⟨(.p 4), .mv (.c (.bool false)), none⟩])
              (.ret))
             (.skip)))
           (.seq (.region [⟨(.l 89), .mv (.p 6), none⟩,
              ⟨(.p 14), .len .sl (.l 89), none⟩,
              ⟨(.p 15), .mv (.c (.int .i64 (0))), none⟩])
            (.block 2
             (.loop b4_0))))))))))
    (.region [⟨(.l 110), .bin .add (.p 13) (.c (.int .i64 (1))), none⟩,
      ⟨(.p 13), .mv (.l 110), none⟩])))
/-- stadion/stadionlaw06.FieldActs -/
def b4 : ICode :=
 .seq (.region [⟨(.p 3), .box 40 3 (.p 2), none⟩,
    ⟨(.p 4), .mv (.c (.bool false)), none⟩])
  (.seq (.seq (.region [⟨(.l 14), .mv (.p 0), none⟩,
      ⟨(.l 15), .call (.c (.fn (.func 15) [] [])) [(.l 14), (.c (.int .i64 (30)))], none⟩,
      ⟨(.l 16), .un .not (.l 15), none⟩,
      ⟨(.l 17), .mv (.l 16), none⟩,
      ⟨(.l 18), .load 3 true (.p 3), some ((.l 17), false)⟩,
      ⟨(.l 19), .bslice 40 1 3 [.str [], .str [], .int .i64 (0)] [(0, 3, (.l 18))], some ((.l 17), false)⟩,
      ⟨(.l 20), .call (.c (.fn (.func 15) [] [])) [(.l 19), (.c (.int .i64 (1)))], some ((.l 17), false)⟩,
      ⟨(.l 21), .un .not (.l 20), some ((.l 17), false)⟩,
      ⟨(.l 22), .pick (.l 17) (.c (.bool true)) (.l 21), none⟩])
    (.cond (.l 22)
     (.seq (.region [⟨(.l 23), .call (.c (.fn (.func 10) [] [])) [], none⟩,
        ⟨(.p 4), .mv (.l 23), none⟩])
      (.ret))
     (.skip)))
   (.seq (.seq (.region [⟨(.p 11), .bslice 4 2 1 [.bool false] [(0, 1, (.c (.bool false))), (1, 1, (.c (.bool true)))], none⟩,
       ⟨(.p 12), .len .sl (.p 11), none⟩,
       ⟨(.p 13), .mv (.c (.int .i64 (0))), none⟩])
     (.block 0
      (.loop b4_1)))
    (.seq (.region [⟨(.l 111), .call (.c (.fn (.func 10) [] [])) [], none⟩,
       ⟨(.p 4), .mv (.l 111), none⟩])
     (.ret))))
theorem ft4 : FT 4 = some ⟨112, [0, 1, 2, 5, 6, 8, 9, 10, 11, 12, 13, 24, 25, 26, 90, 91], [.var (.p 4)], b4⟩ := by kernel_rfl

def b15_0 : ICode :=
 .seq (.seq (.region [⟨(.l 20), .mv (.p 3), none⟩,
     ⟨(.l 21), .mv (.p 0), none⟩,
     ⟨(.l 22), .len .sl (.l 21), none⟩,
     ⟨(.l 23), .bin .lss (.l 20) (.l 22), none⟩])
   (.cond (.l 23)
    (.skip)
    (.exit 0)))
  (.seq (.block 1
    (.seq (.region [⟨(.l 26), .mv (.p 0), none⟩,
       ⟨(.l 27), .mv (.p 3), none⟩,
       ⟨(.l 28), .iaddr none 3 (.l 26) (.l 27), none⟩,
       ⟨(.l 29), .faddr 0 (.l 28), none⟩,
       ⟨(.l 30), .load 1 false (.l 29), none⟩,
       ⟨(.l 31), .len .str (.l 30), none⟩,
       ⟨(.l 32), .bin .gtr (.l 31) (.c (.int .i64 (40))), none⟩,
       ⟨(.l 33), .mv (.l 32), none⟩,
       ⟨(.l 34), .mv (.p 0), some ((.l 33), false)⟩,
       ⟨(.l 35), .mv (.p 3), some ((.l 33), false)⟩,
       ⟨(.l 36), .iaddr none 3 (.l 34) (.l 35), some ((.l 33), false)⟩,
       ⟨(.l 37), .faddr 1 (.l 36), some ((.l 33), false)⟩,
       ⟨(.l 38), .load 1 false (.l 37), some ((.l 33), false)⟩,
       ⟨(.l 39), .len .str (.l 38), some ((.l 33), false)⟩,
       ⟨(.l 40), .bin .gtr (.l 39) (.c (.int .i64 (40))), some ((.l 33), false)⟩,
       ⟨(.l 41), .pick (.l 33) (.c (.bool true)) (.l 40), none⟩])
     (.cond (.l 41)
      (.seq (.region [⟨(.p 2), .mv (.c (.bool false)), none⟩])
       (.ret))
      (.skip))))
   (.region [⟨(.l 24), .mv (.p 3), none⟩,
     ⟨(.l 25), .bin .add (.l 24) (.c (.int .i64 (1))), none⟩,
     ⟨(.p 3), .mv (.l 25), none⟩]))
/-- stadion/stadionref06.ShortActs -/
def b15 : ICode :=
 .seq (.region [⟨(.p 2), .mv (.c (.bool false)), none⟩])
  (.seq (.seq (.region [⟨(.l 6), .mv (.p 0), none⟩,
      ⟨(.l 7), .len .sl (.l 6), none⟩,
      ⟨(.l 8), .mv (.p 1), none⟩,
      ⟨(.l 9), .bin .gtr (.l 7) (.l 8), none⟩,
      ⟨(.l 10), .mv (.l 9), none⟩,
      ⟨(.l 11), .mv (.p 0), some ((.l 10), true)⟩,
      ⟨(.l 12), .len .sl (.l 11), some ((.l 10), true)⟩,
      ⟨(.l 13), .bin .leq (.l 12) (.c (.int .i64 (1000))), some ((.l 10), true)⟩,
      ⟨(.l 14), .pick (.l 10) (.l 13) (.c (.bool false)), none⟩,
      ⟨(.l 15), .mv (.l 14), none⟩,
      ⟨(.l 16), .mv (.p 0), some ((.l 15), false)⟩,
      ⟨(.l 17), .len .sl (.l 16), some ((.l 15), false)⟩,
      ⟨(.l 18), .bin .gtr (.l 17) (.c (.int .i64 (1003))), some ((.l 15), false)⟩,
      ⟨(.l 19), .pick (.l 15) (.c (.bool true)) (.l 18), none⟩])
    (.cond (.l 19)
     (.seq (.region [⟨(.p 2), .mv (.c (.bool false)), none⟩])
      (.ret))
     (.skip)))
   (.seq (.seq (.region [⟨(.p 3), .mv (.c (.int .i64 (0))), none⟩])
     (.block 0
      (.loop b15_0)))
    (.seq (.region [⟨(.p 2), .mv (.c (.bool true)), none⟩])
     (.ret))))
theorem ft15 : FT 15 = some ⟨42, [0, 1, 4, 5], [.var (.p 2)], b15⟩ := by kernel_rfl

/-- stadion/field.CheckAct -/
def b16 : ICode :=
 .seq (.region [⟨(.p 2), .box 44 3 (.p 0), none⟩,
    ⟨(.p 3), .mv (.c (.int .i64 (0))), none⟩])
  (.seq (.draw [(⟨(.l 7), .mv (.p 1), none⟩, []),
     (⟨(.l 8), .call (.c (.fn (.func 66) [] [])) [(.l 7)], none⟩, []),
     (⟨(.l 9), .faddr 1 (.p 2), none⟩, [0, 1]),
     (⟨(.l 10), .load 1 false (.l 9), none⟩, [0, 1]),
     (⟨(.l 11), .lookup .str (.agg [.bool false, .bool false, .int .i64 (0), .nilfn]) (.l 8) (.l 10) false, none⟩, []),
     (⟨(.p 4), .alloc 139 [.bool false, .bool false, .int .i64 (0), .nilfn], none⟩, [0, 1, 2, 3, 4]),
     (⟨.no, .store 4 (.p 4) (.l 11), none⟩, [])])
   (.seq (.region [⟨(.l 12), .faddr 0 (.p 4), none⟩,
      ⟨(.l 13), .load 1 false (.l 12), none⟩,
      ⟨(.l 14), .mv (.l 13), none⟩,
      ⟨(.l 15), .mv (.p 1), some ((.l 14), true)⟩,
      ⟨(.l 16), .un .not (.l 15), some ((.l 14), true)⟩,
      ⟨(.l 17), .pick (.l 14) (.l 16) (.c (.bool false)), none⟩,
      ⟨(.l 18), .mv (.l 17), none⟩,
      ⟨(.l 19), .faddr 1 (.p 4), some ((.l 18), false)⟩,
      ⟨(.l 20), .load 1 false (.l 19), some ((.l 18), false)⟩,
      ⟨(.l 21), .mv (.l 20), some ((.l 18), false)⟩,
      ⟨(.l 22), .mv (.p 1), some ((.l 21), true)⟩,
      ⟨(.l 23), .pick (.l 21) (.l 22) (.c (.bool false)), some ((.l 18), false)⟩,
      ⟨(.l 24), .pick (.l 18) (.c (.bool true)) (.l 23), none⟩,
      ⟨(.p 5), .mv (.l 24), none⟩])
    (.seq (.draw [(⟨(.l 25), .faddr 0 (.p 2), none⟩, []),
       (⟨(.l 26), .load 1 false (.l 25), none⟩, []),
       (⟨(.l 27), .call (.c (.fn (.func 67) [] [])) [(.l 26)], none⟩, []),
       (⟨(.l 28), .un .not (.l 27), none⟩, []),
       (⟨(.l 29), .call (.c (.fn (.func 64) [] [])) [(.l 28), (.c (.int .i64 (8)))], none⟩, []),
       (⟨(.l 30), .mv (.p 5), none⟩, [0, 1, 2, 3, 4]),
       (⟨(.l 31), .un .not (.l 30), none⟩, [0, 1, 2, 3, 4]),
       (⟨(.l 32), .call (.c (.fn (.func 64) [] [])) [(.l 31), (.c (.int .i64 (13)))], none⟩, []),
       (⟨(.l 33), .faddr 2 (.p 2), none⟩, [0, 1, 2, 3, 4, 5, 6, 7]),
       (⟨(.l 34), .load 1 false (.l 33), none⟩, [0, 1, 2, 3, 4, 5, 6, 7]),
       (⟨(.l 35), .faddr 2 (.p 4), none⟩, [0, 1, 2, 3, 4, 5, 6, 7, 8, 9]),
       (⟨(.l 36), .load 1 false (.l 35), none⟩, [0, 1, 2, 3, 4, 5, 6, 7, 8, 9]),
       (⟨(.l 37), .call (.c (.fn (.func 63) [] [])) [(.l 34), (.c (.int .i64 (0))), (.l 36)], none⟩, []),
       (⟨(.l 38), .bslice 30 3 1 [.int .i64 (0)] [(0, 1, (.l 29)), (1, 1, (.l 32)), (2, 1, (.l 37))], none⟩, []),
       (⟨(.l 39), .call (.c (.fn (.func 61) [] [])) [(.l 38)], none⟩, []),
       (⟨(.p 3), .mv (.l 39), none⟩, [])])
     (.ret))))
theorem ft16 : FT 16 = some ⟨40, [0, 1, 2, 4, 5, 6], [.var (.p 3)], b16⟩ := by kernel_rfl

/-- stadion/stadionref06.CheckAct -/
def b17 : ICode :=
 .seq (.region [⟨(.p 2), .box 40 3 (.p 0), none⟩,
    ⟨(.p 3), .mv (.c (.int .i64 (0))), none⟩])
  (.seq (.seq (.region [⟨(.l 6), .faddr 0 (.p 2), none⟩,
      ⟨(.l 7), .load 1 false (.l 6), none⟩,
      ⟨(.l 8), .call (.c (.fn (.func 68) [] [])) [(.l 7)], none⟩,
      ⟨(.l 9), .un .not (.l 8), none⟩])
    (.cond (.l 9)
     (.seq (.region [⟨(.p 3), .mv (.c (.int .i64 (8))), none⟩])
      (.ret))
     (.skip)))
   (.seq (.region [⟨(.p 4), .mv (.c (.int .i64 (0))), none⟩])
    (.seq (.seq (.region [⟨(.l 10), .faddr 1 (.p 2), none⟩,
        ⟨(.p 5), .load 1 false (.l 10), none⟩])
      (.block 0
       (.seq (.seq (.region [⟨(.l 13), .bin .eql (.p 5) (.c (.str [112, 97, 115, 115])), none⟩,
           ⟨(.p 6), .mv (.l 13), none⟩])
         (.cond (.p 6)
          (.skip)
          (.region [⟨(.l 14), .bin .eql (.p 5) (.c (.str [114, 101, 116, 105, 114, 101])), none⟩,
            ⟨(.p 6), .mv (.l 14), none⟩])))
        (.cond (.p 6)
         (.skip)
         (.seq (.region [⟨(.l 16), .bin .eql (.p 5) (.c (.str [109, 97, 114, 107])), none⟩,
            ⟨(.l 15), .mv (.l 16), none⟩])
          (.cond (.l 15)
           (.seq (.seq (.region [⟨(.l 17), .mv (.p 1), none⟩])
             (.cond (.l 17)
              (.seq (.region [⟨(.p 3), .mv (.c (.int .i64 (13))), none⟩])
               (.ret))
              (.skip)))
            (.region [⟨(.p 4), .mv (.c (.int .i64 (999999))), none⟩]))
           (.seq (.region [⟨(.l 19), .bin .eql (.p 5) (.c (.str [102, 111, 117, 108])), none⟩,
              ⟨(.l 18), .mv (.l 19), none⟩])
            (.cond (.l 18)
             (.seq (.region [⟨(.l 20), .mv (.p 1), none⟩])
              (.cond (.l 20)
               (.seq (.region [⟨(.p 3), .mv (.c (.int .i64 (13))), none⟩])
                (.ret))
               (.skip)))
             (.seq (.seq (.region [⟨(.l 22), .bin .eql (.p 5) (.c (.str [99, 108, 101, 97, 114])), none⟩,
                 ⟨(.p 7), .mv (.l 22), none⟩])
               (.cond (.p 7)
                (.skip)
                (.region [⟨(.l 23), .bin .eql (.p 5) (.c (.str [102, 97, 105, 108])), none⟩,
                  ⟨(.p 7), .mv (.l 23), none⟩])))
              (.cond (.p 7)
               (.seq (.region [⟨(.l 24), .mv (.p 1), none⟩,
                  ⟨(.l 25), .un .not (.l 24), none⟩])
                (.cond (.l 25)
                 (.seq (.region [⟨(.p 3), .mv (.c (.int .i64 (13))), none⟩])
                  (.ret))
                 (.skip)))
               (.seq (.region [⟨(.p 3), .mv (.c (.int .i64 (13))), none⟩])
                (.ret))))))))))))
     (.seq (.seq (.region [⟨(.l 26), .faddr 2 (.p 2), none⟩,
         ⟨(.l 27), .load 1 false (.l 26), none⟩,
         ⟨(.l 28), .bin .lss (.l 27) (.c (.int .i64 (0))), none⟩,
         ⟨(.l 29), .mv (.l 28), none⟩,
         ⟨(.l 30), .faddr 2 (.p 2), some ((.l 29), false)⟩,
         ⟨(.l 31), .load 1 false (.l 30), some ((.l 29), false)⟩,
         ⟨(.l 32), .mv (.p 4), some ((.l 29), false)⟩,
         ⟨(.l 33), .bin .gtr (.l 31) (.l 32), some ((.l 29), false)⟩,
         ⟨(.l 34), .pick (.l 29) (.c (.bool true)) (.l 33), none⟩])
       (.cond (.l 34)
        (.seq (.region [⟨(.p 3), .mv (.c (.int .i64 (3))), none⟩])
         (.ret))
        (.skip)))
      (.seq (.region [⟨(.p 3), .mv (.c (.int .i64 (0))), none⟩])
       (.ret))))))
theorem ft17 : FT 17 = some ⟨35, [0, 1, 2, 4, 5, 11, 12, 21], [.var (.p 3)], b17⟩ := by kernel_rfl

/-- stadion/field.Corrected -/
def b18 : ICode :=
 .seq (.region [⟨(.p 4), .box 44 3 (.p 2), none⟩,
    ⟨(.p 5), .mv (.c (.nilsl)), none⟩,
    ⟨(.p 6), .mv (.c (.int .i64 (0))), none⟩])
  (.seq (.seq (.draw [(⟨(.l 12), .mv (.p 0), none⟩, []),
      (⟨(.l 13), .mv (.p 3), none⟩, [0]),
      (⟨(.l 14), .call (.c (.fn (.func 69) [] [])) [(.l 12), (.l 13)], none⟩, []),
      (⟨(.l 15), .load 3 true (.p 4), none⟩, [0, 1, 2]),
      (⟨(.l 16), .mv (.p 3), none⟩, [0, 1, 2, 3]),
      (⟨(.l 17), .call (.c (.fn (.func 16) [] [])) [(.l 15), (.l 16)], none⟩, []),
      (⟨(.l 18), .mv (.p 1), none⟩, [0, 1, 2, 3, 4, 5]),
      (⟨(.l 19), .bin .lss (.l 18) (.c (.int .i64 (1))), none⟩, [0, 1, 2, 3, 4, 5]),
      (⟨(.l 20), .mv (.l 19), none⟩, []),
      (⟨(.l 21), .mv (.p 1), some ((.l 20), false)⟩, []),
      (⟨(.l 22), .mv (.p 0), some ((.l 20), false)⟩, [9]),
      (⟨(.l 23), .len .sl (.l 22), some ((.l 20), false)⟩, [9]),
      (⟨(.l 24), .bin .gtr (.l 21) (.l 23), some ((.l 20), false)⟩, []),
      (⟨(.l 25), .pick (.l 20) (.c (.bool true)) (.l 24), none⟩, []),
      (⟨(.l 26), .call (.c (.fn (.func 64) [] [])) [(.l 25), (.c (.int .i64 (10)))], none⟩, []),
      (⟨(.l 27), .bslice 30 3 1 [.int .i64 (0)] [(0, 1, (.l 14)), (1, 1, (.l 17)), (2, 1, (.l 26))], none⟩, []),
      (⟨(.l 28), .call (.c (.fn (.func 61) [] [])) [(.l 27)], none⟩, []),
      (⟨(.p 7), .mv (.l 28), none⟩, [])])
    (.seq (.region [⟨(.l 29), .mv (.p 7), none⟩,
       ⟨(.l 30), .bin .neq (.l 29) (.c (.int .i64 (0))), none⟩])
     (.cond (.l 30)
      (.seq (.region [⟨(.l 31), .mv (.p 7), none⟩,
         ⟨(.p 5), .mv (.c (.nilsl)), none⟩,
         ⟨(.p 6), .mv (.l 31), none⟩])
       (.ret))
      (.skip))))
   (.seq (.region [⟨(.l 32), .mv (.p 0), none⟩,
      ⟨(.l 33), .call (.c (.fn (.func 70) [] [])) [(.l 32)], none⟩,
      ⟨(.p 8), .mv (.l 33), none⟩])
    (.seq (.region [⟨(.l 34), .mv (.p 8), none⟩,
       ⟨(.l 35), .mv (.p 1), none⟩,
       ⟨(.l 36), .bin .sub (.l 35) (.c (.int .i64 (1))), none⟩,
       ⟨(.l 37), .load 3 true (.p 4), none⟩,
       ⟨(.l 38), .iaddr none 3 (.l 34) (.l 36), none⟩,
       ⟨.no, .store 3 (.l 38) (.l 37), none⟩])
     (.seq (.region [⟨(.l 39), .mv (.p 8), none⟩,
        ⟨(.p 5), .mv (.l 39), none⟩,
        ⟨(.p 6), .mv (.c (.int .i64 (0))), none⟩])
      (.ret)))))
theorem ft18 : FT 18 = some ⟨40, [0, 1, 2, 3, 6, 8, 9, 10, 11], [.var (.p 5), .var (.p 6)], b18⟩ := by kernel_rfl

def b19_0 : ICode :=
 .seq (.region [⟨(.l 9), .bin .lss (.p 6) (.p 5), none⟩])
  (.seq (.cond (.l 9)
    (.skip)
    (.exit 0))
   (.seq (.block 1
     (.seq (.region [⟨(.l 10), .iaddr none 3 (.p 4) (.p 6), none⟩,
        ⟨(.l 11), .load 3 true (.l 10), none⟩,
        ⟨(.p 3), .alloc 40 [.str [], .str [], .int .i64 (0)], none⟩,
        ⟨.no, .store 3 (.p 3) (.l 11), none⟩])
      (.region [⟨(.l 12), .mv (.p 2), none⟩,
        ⟨(.l 13), .load 3 true (.p 3), none⟩,
        ⟨(.l 14), .bslice 44 1 3 [.str [], .str [], .int .i64 (0)] [(0, 3, (.l 13))], none⟩,
        ⟨(.l 15), .append 44 3 40 (.l 12) (.l 14), none⟩,
        ⟨(.p 2), .mv (.l 15), none⟩])))
    (.region [⟨(.l 16), .bin .add (.p 6) (.c (.int .i64 (1))), none⟩,
      ⟨(.p 6), .mv (.l 16), none⟩])))
/-- stadion/stadionlaw06.acts -/
def b19 : ICode :=
 .seq (.region [⟨(.p 1), .mv (.c (.nilsl)), none⟩])
  (.seq (.region [⟨(.p 2), .mv (.c (.nilsl)), none⟩])
   (.seq (.seq (.region [⟨(.p 4), .mv (.p 0), none⟩,
       ⟨(.p 5), .len .sl (.p 4), none⟩,
       ⟨(.p 6), .mv (.c (.int .i64 (0))), none⟩])
     (.block 0
      (.loop b19_0)))
    (.seq (.region [⟨(.l 17), .mv (.p 2), none⟩,
       ⟨(.p 1), .mv (.l 17), none⟩])
     (.ret))))
theorem ft19 : FT 19 = some ⟨18, [0, 2, 3, 5, 6, 7, 8], [.var (.p 1)], b19⟩ := by kernel_rfl

def b20_0 : ICode :=
 .seq (.region [⟨(.l 8), .bin .lss (.p 5) (.p 4), none⟩])
  (.seq (.cond (.l 8)
    (.skip)
    (.exit 0))
   (.seq (.block 1
     (.seq (.region [⟨(.l 9), .iaddr none 1 (.p 3) (.p 5), none⟩,
        ⟨(.l 10), .load 1 false (.l 9), none⟩,
        ⟨(.p 2), .mv (.l 10), none⟩])
      (.seq (.region [⟨(.l 11), .mv (.p 2), none⟩,
         ⟨(.l 12), .bin .neq (.l 11) (.c (.int .i64 (0))), none⟩])
       (.cond (.l 12)
        (.seq (.region [⟨(.l 13), .mv (.p 2), none⟩,
           ⟨(.p 1), .mv (.l 13), none⟩])
         (.ret))
        (.skip)))))
    (.region [⟨(.l 14), .bin .add (.p 5) (.c (.int .i64 (1))), none⟩,
      ⟨(.p 5), .mv (.l 14), none⟩])))
/-- stadion/stadionlaw06.first -/
def b20 : ICode :=
 .seq (.region [⟨(.p 1), .mv (.c (.int .i64 (0))), none⟩])
  (.seq (.seq (.region [⟨(.p 3), .mv (.p 0), none⟩,
      ⟨(.p 4), .len .sl (.p 3), none⟩,
      ⟨(.p 5), .mv (.c (.int .i64 (0))), none⟩])
    (.block 0
     (.loop b20_0)))
   (.seq (.region [⟨(.p 1), .mv (.c (.int .i64 (0))), none⟩])
    (.ret)))
theorem ft20 : FT 20 = some ⟨15, [0, 2, 4, 5, 6, 7], [.var (.p 1)], b20⟩ := by kernel_rfl

def b21_0 : ICode :=
 .seq (.seq (.region [⟨(.l 10), .mv (.p 3), none⟩,
     ⟨(.l 11), .mv (.p 0), none⟩,
     ⟨(.l 12), .len .sl (.l 11), none⟩,
     ⟨(.l 13), .bin .lss (.l 10) (.l 12), none⟩])
   (.cond (.l 13)
    (.skip)
    (.exit 0)))
  (.seq (.block 1
    (.seq (.region [⟨(.l 16), .mv (.p 0), none⟩,
       ⟨(.l 17), .mv (.p 3), none⟩,
       ⟨(.l 18), .iaddr none 3 (.l 16) (.l 17), none⟩,
       ⟨(.l 19), .load 3 true (.l 18), none⟩,
       ⟨(.l 20), .mv (.p 1), none⟩,
       ⟨(.l 21), .call (.c (.fn (.func 17) [] [])) [(.l 19), (.l 20)], none⟩,
       ⟨(.p 4), .mv (.l 21), none⟩])
     (.seq (.region [⟨(.l 22), .mv (.p 4), none⟩,
        ⟨(.l 23), .bin .neq (.l 22) (.c (.int .i64 (0))), none⟩])
      (.cond (.l 23)
       (.seq (.region [⟨(.l 24), .mv (.p 4), none⟩,
          ⟨(.p 2), .mv (.l 24), none⟩])
        (.ret))
       (.skip)))))
   (.region [⟨(.l 14), .mv (.p 3), none⟩,
     ⟨(.l 15), .bin .add (.l 14) (.c (.int .i64 (1))), none⟩,
     ⟨(.p 3), .mv (.l 15), none⟩]))
/-- stadion/stadionref06.CheckActs -/
def b21 : ICode :=
 .seq (.region [⟨(.p 2), .mv (.c (.int .i64 (0))), none⟩])
  (.seq (.seq (.region [⟨(.l 7), .mv (.p 0), none⟩,
      ⟨(.l 8), .len .sl (.l 7), none⟩,
      ⟨(.l 9), .bin .gtr (.l 8) (.c (.int .i64 (1000))), none⟩])
    (.cond (.l 9)
     (.seq (.region [⟨(.p 2), .mv (.c (.int .i64 (5))), none⟩])
      (.ret))
     (.skip)))
   (.seq (.seq (.region [⟨(.p 3), .mv (.c (.int .i64 (0))), none⟩])
     (.block 0
      (.loop b21_0)))
    (.seq (.region [⟨(.p 2), .mv (.c (.int .i64 (0))), none⟩])
     (.ret))))
theorem ft21 : FT 21 = some ⟨25, [0, 1, 4, 5, 6], [.var (.p 2)], b21⟩ := by kernel_rfl

/-- stadion/field.kinds -/
def b66 : ICode :=
 .seq (.region [⟨(.p 1), .mv (.c (.nilmap)), none⟩])
  (.seq (.region [⟨(.p 2), .mv (.c (.fn (.func 117) [] [])), none⟩])
   (.seq (.region [⟨(.p 3), .mv (.c (.fn (.func 119) [] [])), none⟩])
    (.seq (.seq (.region [⟨(.l 5), .mv (.p 0), none⟩])
      (.cond (.l 5)
       (.region [⟨(.l 6), .mv (.p 2), none⟩,
         ⟨(.l 7), .call (.l 6) [(.c (.str [45]))], none⟩,
         ⟨(.p 3), .mv (.l 7), none⟩])
       (.skip)))
     (.seq (.region [⟨(.l 8), .mkmap, none⟩,
        ⟨(.l 9), .build [.bool false, .bool false, .int .i64 (0), .nilfn] [(0, 1, (.c (.bool true))), (1, 1, (.c (.bool false))), (2, 1, (.c (.int .i64 (999999)))), (3, 1, (.c (.fn (.func 120) [] [])))], none⟩,
        ⟨.no, .mapset .str (.l 8) (.c (.str [109, 97, 114, 107])) (.l 9), none⟩,
        ⟨(.l 10), .build [.bool false, .bool false, .int .i64 (0), .nilfn] [(0, 1, (.c (.bool true))), (1, 1, (.c (.bool false))), (2, 1, (.c (.int .i64 (0)))), (3, 1, (.c (.fn (.func 121) [] [])))], none⟩,
        ⟨.no, .mapset .str (.l 8) (.c (.str [102, 111, 117, 108])) (.l 10), none⟩,
        ⟨(.l 11), .mv (.p 2), none⟩,
        ⟨(.l 12), .call (.l 11) [(.c (.str [111]))], none⟩,
        ⟨(.l 13), .build [.bool false, .bool false, .int .i64 (0), .nilfn] [(0, 1, (.c (.bool false))), (1, 1, (.c (.bool true))), (2, 1, (.c (.int .i64 (0)))), (3, 1, (.l 12))], none⟩,
        ⟨.no, .mapset .str (.l 8) (.c (.str [99, 108, 101, 97, 114])) (.l 13), none⟩,
        ⟨(.l 14), .mv (.p 2), none⟩,
        ⟨(.l 15), .call (.l 14) [(.c (.str [120]))], none⟩,
        ⟨(.l 16), .build [.bool false, .bool false, .int .i64 (0), .nilfn] [(0, 1, (.c (.bool false))), (1, 1, (.c (.bool true))), (2, 1, (.c (.int .i64 (0)))), (3, 1, (.l 15))], none⟩,
        ⟨.no, .mapset .str (.l 8) (.c (.str [102, 97, 105, 108])) (.l 16), none⟩,
        ⟨(.l 17), .mv (.p 3), none⟩,
        ⟨(.l 18), .build [.bool false, .bool false, .int .i64 (0), .nilfn] [(0, 1, (.c (.bool true))), (1, 1, (.c (.bool true))), (2, 1, (.c (.int .i64 (0)))), (3, 1, (.l 17))], none⟩,
        ⟨.no, .mapset .str (.l 8) (.c (.str [112, 97, 115, 115])) (.l 18), none⟩,
        ⟨(.l 19), .build [.bool false, .bool false, .int .i64 (0), .nilfn] [(0, 1, (.c (.bool true))), (1, 1, (.c (.bool true))), (2, 1, (.c (.int .i64 (0)))), (3, 1, (.c (.fn (.func 122) [] [])))], none⟩,
        ⟨.no, .mapset .str (.l 8) (.c (.str [114, 101, 116, 105, 114, 101])) (.l 19), none⟩,
        ⟨(.l 20), .mv (.l 8), none⟩,
        ⟨(.p 1), .mv (.l 20), none⟩])
      (.ret)))))
theorem ft66 : FT 66 = some ⟨21, [0, 2, 3, 4], [.var (.p 1)], b66⟩ := by kernel_rfl

def b69_0 : ICode :=
 .seq (.region [⟨(.l 14), .bin .lss (.p 7) (.p 6), none⟩])
  (.seq (.cond (.l 14)
    (.skip)
    (.exit 0))
   (.seq (.block 1
     (.seq (.region [⟨(.l 15), .iaddr none 3 (.p 5) (.p 7), none⟩,
        ⟨(.l 16), .load 3 true (.l 15), none⟩,
        ⟨(.p 3), .alloc 44 [.str [], .str [], .int .i64 (0)], none⟩,
        ⟨.no, .store 3 (.p 3) (.l 16), none⟩])
      (.seq (.region [⟨(.l 17), .load 3 true (.p 3), none⟩,
         ⟨(.l 18), .mv (.p 1), none⟩,
         ⟨(.l 19), .call (.c (.fn (.func 16) [] [])) [(.l 17), (.l 18)], none⟩,
         ⟨(.p 4), .mv (.l 19), none⟩])
       (.seq (.region [⟨(.l 20), .mv (.p 4), none⟩,
          ⟨(.l 21), .bin .neq (.l 20) (.c (.int .i64 (0))), none⟩])
        (.cond (.l 21)
         (.seq (.region [⟨(.l 22), .mv (.p 4), none⟩,
            ⟨(.p 2), .mv (.l 22), none⟩])
          (.ret))
         (.skip))))))
    (.region [⟨(.l 23), .bin .add (.p 7) (.c (.int .i64 (1))), none⟩,
      ⟨(.p 7), .mv (.l 23), none⟩])))
/-- stadion/field.checkActs -/
def b69 : ICode :=
 .seq (.region [⟨(.p 2), .mv (.c (.int .i64 (0))), none⟩])
  (.seq (.seq (.region [⟨(.l 8), .mv (.p 0), none⟩,
      ⟨(.l 9), .len .sl (.l 8), none⟩,
      ⟨(.l 10), .bin .gtr (.l 9) (.c (.int .i64 (1000))), none⟩])
    (.cond (.l 10)
     (.seq (.region [⟨(.p 2), .mv (.c (.int .i64 (5))), none⟩])
      (.ret))
     (.skip)))
   (.seq (.seq (.region [⟨(.p 5), .mv (.p 0), none⟩,
       ⟨(.p 6), .len .sl (.p 5), none⟩,
       ⟨(.p 7), .mv (.c (.int .i64 (0))), none⟩])
     (.block 0
      (.loop b69_0)))
    (.seq (.region [⟨(.p 2), .mv (.c (.int .i64 (0))), none⟩])
     (.ret))))
theorem ft69 : FT 69 = some ⟨24, [0, 1, 4, 6, 7, 11, 12, 13], [.var (.p 2)], b69⟩ := by kernel_rfl

/-- stadion/field.copied[stadion/field.Act] -/
def b70 : ICode :=
 .seq (.region [⟨(.p 1), .mv (.c (.nilsl)), none⟩])
  (.seq (.region [⟨(.l 3), .mv (.p 0), none⟩,
     ⟨(.l 4), .append 44 3 40 (.c (.nilsl)) (.l 3), none⟩,
     ⟨(.p 1), .mv (.l 4), none⟩])
   (.ret))
theorem ft70 : FT 70 = some ⟨5, [0, 2], [.var (.p 1)], b70⟩ := by kernel_rfl

/-- stadion/field.kinds$1 -/
def b117 : ICode :=
 .seq (.region [⟨(.p 1), .box 9 1 (.p 0), none⟩,
    ⟨(.p 2), .mv (.c (.nilfn)), none⟩])
  (.seq (.region [⟨(.l 3), .mkfn (.func 118) [] [(.p 1)], none⟩,
     ⟨(.p 2), .mv (.l 3), none⟩])
   (.ret))
theorem ft117 : FT 117 = some ⟨4, [0, 1, 2], [.var (.p 2)], b117⟩ := by kernel_rfl

end Go.Ab.Ch6


/-
  Own work: acts of a competition: their errors, in plain words.
-/
namespace Go.Ab.Ch6

structure Act where
  who : Str
  kind : Str
  val : Int
  deriving DecidableEq, Inhabited
def actC (a : Act) : List AV := [.str a.who, .str a.kind, .int .i64 a.val]
abbrev acts (l : List Act) : List AV := arr actC l
def sMark : Str := [109, 97, 114, 107]
def sFoul : Str := [102, 111, 117, 108]
def sClear : Str := [99, 108, 101, 97, 114]
def sFail : Str := [102, 97, 105, 108]
def sPass : Str := [112, 97, 115, 115]
def sRetire : Str := [114, 101, 116, 105, 114, 101]
/-- The greatest value of a kind, if it is one of the competition's. -/
def kindM (k : Str) (hts : Bool) : Option Int :=
  if k = sPass ∨ k = sRetire then some 0
  else if k = sMark then (if hts then none else some 999999)
  else if k = sFoul then (if hts then none else some 0)
  else if k = sClear ∨ k = sFail then (if hts then some 0 else none)
  else none
def actE (a : Act) (hts : Bool) : Int :=
  if isName a.who = false then 8 else match kindM a.kind hts with
    | none => 13
    | some m => if a.val < 0 ∨ m < a.val then 3 else 0
def firstE (hts : Bool) : List Act → Int
  | [] => 0
  | a :: l => if actE a hts ≠ 0 then actE a hts else firstE hts l
def actsE (l : List Act) (hts : Bool) : Int := if 1000 < l.length then 5 else firstE hts l
theorem firstE_drop {hts : Bool} {l : List Act} {i : Nat} (h : i < l.length) : firstE hts (l.drop i) = if actE l[i]! hts ≠ 0 then actE l[i]! hts else firstE hts (l.drop (i + 1)) := by
  rw [List.drop_eq_getElem_cons h, firstE, getElem!_pos l i h]
def corrE (l : List Act) (n : Int) (a : Act) (hts : Bool) : Int :=
  if actsE l hts ≠ 0 then actsE l hts else if actE a hts ≠ 0 then actE a hts else if n < 1 ∨ (l.length : Int) < n then 10 else 0
/-- Texts of acts are short; there are few of them, or too many. -/
def shortA (l : List Act) (n : Nat) : Bool := !(decide (n < l.length) && decide (l.length ≤ 1000)) && decide (l.length ≤ 1003) && l.all fun a => decide (a.who.length ≤ 40) && decide (a.kind.length ≤ 40)
end Go.Ab.Ch6


/-
  Own work: acts: the kinds of acts, and what an act's check computes.
-/
namespace Go.Ab.Ch6
variable {M : Mach} {cap : Option Nat}

theorem loop20 (l : List Int) (hl : l.length < 4611686018427387904) {Q : Ex → StW → Prop} : ∀ (r i : Nat) (a2 : AV) (lo : List (Nat × AV)) (wr : List Nat), i + r = l.length →
    (firstNZ (l.drop i) = 0 → ∀ a2 lo wr, Q (.exit 0) ⟨⟨[.vs (ints l) l.length cap, .int .i64 0, a2, .vs (ints l) l.length cap, .int .i64 l.length, .int .i64 l.length], lo, [], []⟩, wr⟩) →
    (∀ a2 a5 lo wr, Q .ret ⟨⟨[.vs (ints l) l.length cap, .int .i64 (firstNZ (l.drop i)), a2, .vs (ints l) l.length cap, .int .i64 l.length, a5], lo, [], []⟩, wr⟩) →
    W M (.loop b20_0) ⟨⟨[.vs (ints l) l.length cap, .int .i64 0, a2, .vs (ints l) l.length cap, .int .i64 l.length, .int .i64 i], lo, [], []⟩, wr⟩ Q
  | 0, i, a2, lo, wr, hi, h1, h2 => by
    obtain rfl : i = l.length := by omega
    refine W.loop ?_
    unfold b20_0
    repeat' first | apply W.seq | apply SQn | apply W.region | apply WO.nil | apply W.block | apply W.ret | apply W.exit | apply W.skip | apply SQr | apply SQe | apply BQn | apply BQr | apply BQe | (apply BQo; exact rfl) | apply LQe | apply LQr | apply LIe | apply LIr | (apply W.condT; exact rfl) | (apply W.condF; exact rfl) | (apply W.cond; exact rfl; all_goals intro _) | (apply WO.lss; exact rfl; exact rfl; all_goals first | (intro _; exfalso; omega) | intro _) | (apply WO.neq; exact rfl; exact rfl; all_goals first | (intro _; exfalso; omega) | intro _) | (apply WO.add; exact rfl; exact rfl; omega) | (apply WO.iav; exact rfl; exact rfl; omega) | (apply WO.ias; exact rfl; exact rfl; omega) | (apply WO.lda; exact rfl; exact fun _ => rfl; (first | omega | (simp only [List.length_set]; omega) | (simp; omega)); decide; exact rfl; case ia => infer_instance) | (apply WO.lsa; exact rfl; (first | exact rfl | assumption | exact at_new | (apply at_old; assumption) | (apply at_put; first | assumption | (simp only [put_length]; assumption))); exact fun _ => rfl; (first | omega | (simp only [List.length_set]; omega) | (simp; omega)); decide; exact rfl; case ia => infer_instance) | (apply WO.sneq; exact rfl; exact rfl; all_goals first | (intro h; exact absurd h (by decide)) | (intro h; exact absurd rfl h) | (intro h; contradiction) | intro _) | (apply WO.hlv; exact rfl; exact rfl; exact rfl) | (apply WO.hpv; exact rfl; exact rfl; exact rfl) | (apply WO.hnv; exact rfl; exact rfl; exact rfl) | (apply WO.pl; exact rfl; exact rfl) | (apply WO.pp; exact rfl; exact rfl)
    exact h1 (by simp [firstNZ]) _ _ _
  | r + 1, i, a2, lo, wr, hi, h1, h2 => by
    have e := firstNZ_drop (l := l) (i := (i : Int).toNat) (by omega)
    rw [Int.toNat_natCast] at e
    refine W.loop ?_
    unfold b20_0
    repeat' first | apply W.seq | apply SQn | apply W.region | apply WO.nil | apply W.block | apply W.ret | apply W.exit | apply W.skip | apply SQr | apply SQe | apply BQn | apply BQr | apply BQe | (apply BQo; exact rfl) | apply LQe | apply LQr | apply LIe | apply LIr | (apply W.condT; exact rfl) | (apply W.condF; exact rfl) | (apply W.cond; exact rfl; all_goals intro _) | (apply WO.lss; exact rfl; exact rfl; all_goals first | (intro _; exfalso; omega) | intro _) | (apply WO.neq; exact rfl; exact rfl; all_goals first | (intro _; exfalso; omega) | intro _) | (apply WO.add; exact rfl; exact rfl; omega) | (apply WO.iav; exact rfl; exact rfl; omega) | (apply WO.ias; exact rfl; exact rfl; omega) | (apply WO.lda; exact rfl; exact fun _ => rfl; (first | omega | (simp only [List.length_set]; omega) | (simp; omega)); decide; exact rfl; case ia => infer_instance) | (apply WO.lsa; exact rfl; (first | exact rfl | assumption | exact at_new | (apply at_old; assumption) | (apply at_put; first | assumption | (simp only [put_length]; assumption))); exact fun _ => rfl; (first | omega | (simp only [List.length_set]; omega) | (simp; omega)); decide; exact rfl; case ia => infer_instance) | (apply WO.sneq; exact rfl; exact rfl; all_goals first | (intro h; exact absurd h (by decide)) | (intro h; exact absurd rfl h) | (intro h; contradiction) | intro _) | (apply WO.hlv; exact rfl; exact rfl; exact rfl) | (apply WO.hpv; exact rfl; exact rfl; exact rfl) | (apply WO.hnv; exact rfl; exact rfl; exact rfl) | (apply WO.pl; exact rfl; exact rfl) | (apply WO.pp; exact rfl; exact rfl)
    · rename_i he
      rw [Int.toNat_natCast] at he
      rw [if_neg he] at e
      rw [e] at h2
      exact h2 _ _ _ _
    · rename_i he
      rw [Int.toNat_natCast] at he
      rw [if_pos he] at e
      rw [e] at h1 h2
      exact LQn (loop20 l hl r (i + 1) _ _ _ (by omega) h1 h2)
theorem w20 (hft : M.FT = FT) (l : List Int) (hl : l.length < 4611686018427387904) : Run M 20 [.vs (ints l) l.length cap] [] ⟨.int .i64 (firstNZ l), [], []⟩ := by
  refine run_of_W (by rw [hft]; exact ft20) (by simp) ?_
  unfold b20
  simp only [List.map_cons, List.map_nil, List.getElem?_cons_zero, List.getElem?_cons_succ, List.getElem?_nil, Option.getD_some, Option.getD_none]
  repeat' first | apply W.seq | apply SQn | apply W.region | apply WO.nil | apply W.block | apply W.ret | apply W.exit | apply W.skip | apply SQr | apply SQe | apply BQn | apply BQr | apply BQe | (apply BQo; exact rfl) | apply LQe | apply LQr | apply LIe | apply LIr | (apply W.condT; exact rfl) | (apply W.condF; exact rfl) | (apply W.cond; exact rfl; all_goals intro _) | (apply WO.pl; exact rfl; exact rfl) | (apply WO.pp; exact rfl; exact rfl)
  refine loop20 l hl l.length 0 _ _ _ (by omega) (fun h a2 lo wr => ?_) (fun a2 a5 lo wr => ?_)
  · repeat' first | apply W.seq | apply SQn | apply W.region | apply WO.nil | apply W.block | apply W.ret | apply W.exit | apply W.skip | apply SQr | apply SQe | apply BQn | apply BQr | apply BQe | (apply BQo; exact rfl) | apply LQe | apply LQr | apply LIe | apply LIr | (apply W.condT; exact rfl) | (apply W.condF; exact rfl) | (apply W.cond; exact rfl; all_goals intro _) | (apply WO.pl; exact rfl; exact rfl) | (apply WO.pp; exact rfl; exact rfl)
    exact ⟨.inr rfl, rfl, _, rfl, by rw [List.drop_zero] at h; rw [h]; rfl, rfl⟩
  · repeat' first | apply W.seq | apply SQn | apply W.region | apply WO.nil | apply W.block | apply W.ret | apply W.exit | apply W.skip | apply SQr | apply SQe | apply BQn | apply BQr | apply BQe | (apply BQo; exact rfl) | apply LQe | apply LQr | apply LIe | apply LIr | (apply W.condT; exact rfl) | (apply W.condF; exact rfl) | (apply W.cond; exact rfl; all_goals intro _) | (apply WO.pl; exact rfl; exact rfl) | (apply WO.pp; exact rfl; exact rfl)
    exact ⟨.inr rfl, rfl, _, rfl, rfl, rfl⟩

/-! kinds -/
theorem w117 (hft : M.FT = FT) (s : Str) : Run M 117 [.str s] [] ⟨.fn (.func 118) [] [.ptr 0 0], [some (.cells [.str s] 9)], []⟩ := by
  refine run_of_W (by rw [hft]; exact ft117) (by simp) ?_
  unfold b117
  simp only [List.map_cons, List.map_nil, List.getElem?_cons_zero, List.getElem?_cons_succ, List.getElem?_nil, Option.getD_some, Option.getD_none]
  repeat' first | apply W.seq | apply SQn | apply W.region | apply WO.nil | apply W.block | apply W.ret | apply W.exit | apply W.skip | apply SQr | apply SQe | apply BQn | apply BQr | apply BQe | (apply BQo; exact rfl) | apply LQe | apply LQr | apply LIe | apply LIr | (apply W.condT; exact rfl) | (apply W.condF; exact rfl) | (apply W.cond; exact rfl; all_goals intro _) | (apply WO.hlv; exact rfl; exact rfl; exact rfl) | (apply WO.hpv; exact rfl; exact rfl; exact rfl) | (apply WO.hnv; exact rfl; exact rfl; exact rfl) | (apply WO.pl; exact rfl; exact rfl) | (apply WO.pp; exact rfl; exact rfl)
  exact ⟨.inr rfl, rfl, _, rfl, rfl, rfl⟩
/-- The kinds, where the closures of a clearance, a failure and a pass hold the blocks c, x and p. -/
def kEs (hts : Bool) (c x p : Nat) : List (AV × AV) :=
  [(.str sMark, .agg [.bool true, .bool false, .int .i64 999999, .fn (.func 120) [] []]), (.str sFoul, .agg [.bool true, .bool false, .int .i64 0, .fn (.func 121) [] []]),
   (.str sClear, .agg [.bool false, .bool true, .int .i64 0, .fn (.func 118) [] [.ptr c 0]]), (.str sFail, .agg [.bool false, .bool true, .int .i64 0, .fn (.func 118) [] [.ptr x 0]]),
   (.str sPass, .agg [.bool true, .bool true, .int .i64 0, if hts then .fn (.func 118) [] [.ptr p 0] else .fn (.func 119) [] []]), (.str sRetire, .agg [.bool true, .bool true, .int .i64 0, .fn (.func 122) [] []])]
theorem w66t (hft : M.FT = FT) (c117 : ∀ s h, M.ext 117 [.str s] h = some ⟨.fn (.func 118) [] [.ptr h.length 0], h ++ [some (.cells [.str s] 9)], []⟩) : Run M 66 [.bool true] [] ⟨.map 1, [some (.cells [.str [45]] 9), some (.map (kEs true 2 3 0)), some (.cells [.str [111]] 9), some (.cells [.str [120]] 9)], []⟩ := by
  refine run_of_W (by rw [hft]; exact ft66) (by simp) ?_
  unfold b66
  simp only [List.map_cons, List.map_nil, List.getElem?_cons_zero, List.getElem?_cons_succ, List.getElem?_nil, Option.getD_some, Option.getD_none]
  repeat' first | apply W.seq | apply SQn | apply W.region | apply WO.nil | apply W.block | apply W.ret | apply W.exit | apply W.skip | apply SQr | apply SQe | apply BQn | apply BQr | apply BQe | (apply BQo; exact rfl) | apply LQe | apply LQr | apply LIe | apply LIr | (apply W.condT; exact rfl) | (apply W.condF; exact rfl) | (apply W.cond; exact rfl; all_goals intro _) | (apply WO.cll; exact rfl; exact rfl; first | exact c117 _ _) | (apply WO.clb; exact rfl; exact rfl; exact rfl; all_goals first | (intro h; exact absurd h (by decide)) | intro _) | (apply WO.cll; exact rfl; exact rfl; exact rfl) | (apply WO.hlv; exact rfl; exact rfl; exact rfl) | (apply WO.hpv; exact rfl; exact rfl; exact rfl) | (apply WO.hnv; exact rfl; exact rfl; exact rfl) | (apply WO.pl; exact rfl; exact rfl) | (apply WO.pp; exact rfl; exact rfl)
  exact ⟨.inr rfl, rfl, _, rfl, rfl, rfl⟩
theorem w66f (hft : M.FT = FT) (c117 : ∀ s h, M.ext 117 [.str s] h = some ⟨.fn (.func 118) [] [.ptr h.length 0], h ++ [some (.cells [.str s] 9)], []⟩) : Run M 66 [.bool false] [] ⟨.map 0, [some (.map (kEs false 1 2 0)), some (.cells [.str [111]] 9), some (.cells [.str [120]] 9)], []⟩ := by
  refine run_of_W (by rw [hft]; exact ft66) (by simp) ?_
  unfold b66
  simp only [List.map_cons, List.map_nil, List.getElem?_cons_zero, List.getElem?_cons_succ, List.getElem?_nil, Option.getD_some, Option.getD_none]
  repeat' first | apply W.seq | apply SQn | apply W.region | apply WO.nil | apply W.block | apply W.ret | apply W.exit | apply W.skip | apply SQr | apply SQe | apply BQn | apply BQr | apply BQe | (apply BQo; exact rfl) | apply LQe | apply LQr | apply LIe | apply LIr | (apply W.condT; exact rfl) | (apply W.condF; exact rfl) | (apply W.cond; exact rfl; all_goals intro _) | (apply WO.cll; exact rfl; exact rfl; first | exact c117 _ _) | (apply WO.clb; exact rfl; exact rfl; exact rfl; all_goals first | (intro h; exact absurd h (by decide)) | intro _) | (apply WO.cll; exact rfl; exact rfl; exact rfl) | (apply WO.hlv; exact rfl; exact rfl; exact rfl) | (apply WO.hpv; exact rfl; exact rfl; exact rfl) | (apply WO.hnv; exact rfl; exact rfl; exact rfl) | (apply WO.pl; exact rfl; exact rfl) | (apply WO.pp; exact rfl; exact rfl)
  exact ⟨.inr rfl, rfl, _, rfl, rfl, rfl⟩
/-- What kinds hands back behind n blocks. -/
def kB (hts : Bool) (n : Nat) : Heap := if hts then [some (.map (kEs true (n + 1) (n + 2) (n + 3))), some (.cells [.str [111]] 9), some (.cells [.str [120]] 9), some (.cells [.str [45]] 9)] else [some (.map (kEs false (n + 1) (n + 2) 0)), some (.cells [.str [111]] 9), some (.cells [.str [120]] 9)]
end Go.Ab.Ch6


/-
  Own work: acts: field.CheckAct and the reference's.
-/
namespace Go.Ab.Ch6
variable {M : Mach}

structure C16 (M : Mach) : Prop extends CF M where
  c66 : ∀ hts h, M.ext 66 [.bool hts] h = some ⟨.map h.length, h ++ kB hts h.length, []⟩
  c67 : ∀ (s : Str) h, s.length < 1000000 → M.ext 67 [.str s] h = some ⟨.bool (isName s), h, []⟩
def kn (hts : Bool) : List (AV × AV) := kEs hts 2 3 (if hts then 4 else 0)
def res16 (who : Str) (val : Int) (known : Bool) (m : Int) : Int := firstNZ [if !isName who then 8 else 0, if !known then 13 else 0, if outI val 0 m then 3 else 0]
set_option maxHeartbeats 1000000 in
theorem l16 (C : C16 M) (hts t hb : Bool) (m : Int) (g : FuncId) (ca : List AV) (j : Nat) (who kind : Str) (val : Int) (hw : who.length < 1000000) (hf : findA (.str kind) (kn hts) 0 = some (some (j, .agg [.bool t, .bool hb, .int .i64 m, .fn (.func g) [] ca]))) :
    Run M 16 [.agg [.str who, .str kind, .int .i64 val], .bool hts] [] ⟨.int .i64 (res16 who val (t && !hts || hb && hts) m), [], []⟩ := by
  have q66 := C.c66
  have q67 := fun h => C.c67 who h hw
  have q64 := C.c64
  have q63 := C.c63
  have q61 := C.q3
  refine run_of_W (by rw [C.ft]; exact ft16) (by simp) ?_
  unfold b16
  simp only [List.map_cons, List.map_nil, List.getElem?_cons_zero, List.getElem?_cons_succ, List.getElem?_nil, Option.getD_some, Option.getD_none]
  cases t <;> cases hb <;> cases hts <;> skip
  all_goals
    repeat' first | apply W.seq | apply SQn | apply W.region | apply WO.nil | apply W.block | apply W.ret | apply W.exit | apply W.skip | apply SQr | apply SQe | apply BQn | apply BQr | apply BQe | (apply BQo; exact rfl) | apply LQe | apply LQr | apply LIe | apply LIr | (apply W.drawro; exact rfl) | apply W.draw | apply WD.nil | (apply WD.gT; exact rfl) | (apply WD.gF; exact rfl) | (apply WD.sT; exact rfl) | (apply WD.sF; exact rfl) | (apply WD.sU; exact rfl) | (apply WD.pure1; exact rfl) | (apply WD.load1; exact rfl; exact rfl; exact rfl) | (apply WD.store1; exact rfl; exact rfl; exact rfl) | (apply WD.new1; exact rfl) | (apply WD.look1; exact rfl; exact rfl) | (apply WD.clb; exact rfl; exact rfl; exact rfl; exact rfl; all_goals first | (intro h; exact absurd h (by decide)) | intro _) | (apply WD.cl0; exact rfl; exact rfl; exact rfl; exact rfl) | (apply WD.cl1; exact rfl; exact rfl; exact rfl; exact rfl) | (apply W.condT; exact rfl) | (apply W.condF; exact rfl) | (apply W.cond; exact rfl; all_goals intro _) | (apply WO.gT; exact rfl) | (apply WO.gF; exact rfl) | (apply WO.sT; exact rfl) | (apply WO.sF; exact rfl) | (apply WO.sU; exact rfl) | (apply WO.pkT; exact rfl; exact rfl) | (apply WO.pkF; exact rfl; exact rfl) | (apply WD.cl1; exact rfl; exact rfl; exact rfl; exact q66 _ _) | (apply WO.cll; exact rfl; exact rfl; first | exact q67 _ | exact q64 _ _ _ | exact q63 _ _ _ _ | exact q61 _ _ _ _) | (apply WD.cl0; exact rfl; exact rfl; exact rfl; first | exact q67 _ | exact q64 _ _ _ | exact q63 _ _ _ _ | exact q61 _ _ _ _) | (apply WO.lkS; exact rfl; exact rfl; exact rfl; exact rfl; exact hf) | (apply WO.clb; exact rfl; exact rfl; exact rfl; all_goals first | (intro h; exact absurd h (by decide)) | intro _) | (apply WO.cll; exact rfl; exact rfl; exact rfl) | (apply WO.hlv; exact rfl; exact rfl; exact rfl) | (apply WO.hpv; exact rfl; exact rfl; exact rfl) | (apply WO.hnv; exact rfl; exact rfl; exact rfl) | (apply WO.pl; exact rfl; exact rfl) | (apply WO.pp; exact rfl; exact rfl)
    exact ⟨.inr rfl, rfl, _, rfl, rfl, rfl⟩
set_option maxHeartbeats 1000000 in
theorem l16n (C : C16 M) (hts : Bool) (who kind : Str) (val : Int) (hw : who.length < 1000000) (hf : findA (.str kind) (kn hts) 0 = some none) :
    Run M 16 [.agg [.str who, .str kind, .int .i64 val], .bool hts] [] ⟨.int .i64 (res16 who val false 0), [], []⟩ := by
  have q66 := C.c66
  have q67 := fun h => C.c67 who h hw
  have q64 := C.c64
  have q63 := C.c63
  have q61 := C.q3
  refine run_of_W (by rw [C.ft]; exact ft16) (by simp) ?_
  unfold b16
  simp only [List.map_cons, List.map_nil, List.getElem?_cons_zero, List.getElem?_cons_succ, List.getElem?_nil, Option.getD_some, Option.getD_none]
  cases hts <;> skip
  all_goals
    repeat' first | apply W.seq | apply SQn | apply W.region | apply WO.nil | apply W.block | apply W.ret | apply W.exit | apply W.skip | apply SQr | apply SQe | apply BQn | apply BQr | apply BQe | (apply BQo; exact rfl) | apply LQe | apply LQr | apply LIe | apply LIr | (apply W.drawro; exact rfl) | apply W.draw | apply WD.nil | (apply WD.gT; exact rfl) | (apply WD.gF; exact rfl) | (apply WD.sT; exact rfl) | (apply WD.sF; exact rfl) | (apply WD.sU; exact rfl) | (apply WD.pure1; exact rfl) | (apply WD.load1; exact rfl; exact rfl; exact rfl) | (apply WD.store1; exact rfl; exact rfl; exact rfl) | (apply WD.new1; exact rfl) | (apply WD.look1; exact rfl; exact rfl) | (apply WD.clb; exact rfl; exact rfl; exact rfl; exact rfl; all_goals first | (intro h; exact absurd h (by decide)) | intro _) | (apply WD.cl0; exact rfl; exact rfl; exact rfl; exact rfl) | (apply WD.cl1; exact rfl; exact rfl; exact rfl; exact rfl) | (apply W.condT; exact rfl) | (apply W.condF; exact rfl) | (apply W.cond; exact rfl; all_goals intro _) | (apply WO.gT; exact rfl) | (apply WO.gF; exact rfl) | (apply WO.sT; exact rfl) | (apply WO.sF; exact rfl) | (apply WO.sU; exact rfl) | (apply WO.pkT; exact rfl; exact rfl) | (apply WO.pkF; exact rfl; exact rfl) | (apply WD.cl1; exact rfl; exact rfl; exact rfl; exact q66 _ _) | (apply WO.cll; exact rfl; exact rfl; first | exact q67 _ | exact q64 _ _ _ | exact q63 _ _ _ _ | exact q61 _ _ _ _) | (apply WD.cl0; exact rfl; exact rfl; exact rfl; first | exact q67 _ | exact q64 _ _ _ | exact q63 _ _ _ _ | exact q61 _ _ _ _) | (apply WO.lkN; exact rfl; exact rfl; exact rfl; exact rfl; exact hf) | (apply WO.clb; exact rfl; exact rfl; exact rfl; all_goals first | (intro h; exact absurd h (by decide)) | intro _) | (apply WO.cll; exact rfl; exact rfl; exact rfl) | (apply WO.hlv; exact rfl; exact rfl; exact rfl) | (apply WO.hpv; exact rfl; exact rfl; exact rfl) | (apply WO.hnv; exact rfl; exact rfl; exact rfl) | (apply WO.pl; exact rfl; exact rfl) | (apply WO.pp; exact rfl; exact rfl)
    exact ⟨.inr rfl, rfl, _, rfl, rfl, rfl⟩
theorem res16_eq {who : Str} {val m : Int} {known : Bool} : res16 who val known m = if isName who = false then 8 else if known = false then 13 else if val < 0 ∨ m < val then 3 else 0 := by
  unfold res16
  cases isName who <;> cases known <;> simp [firstNZ, outI]
/-- The kinds, one by one. -/
theorem kind_cases (k : Str) : k = sMark ∨ k = sFoul ∨ k = sClear ∨ k = sFail ∨ k = sPass ∨ k = sRetire ∨ (k ≠ sMark ∧ k ≠ sFoul ∧ k ≠ sClear ∧ k ≠ sFail ∧ k ≠ sPass ∧ k ≠ sRetire) := by
  by_cases h1 : k = sMark
  · exact .inl h1
  · by_cases h2 : k = sFoul
    · exact .inr (.inl h2)
    · by_cases h3 : k = sClear
      · exact .inr (.inr (.inl h3))
      · by_cases h4 : k = sFail
        · exact .inr (.inr (.inr (.inl h4)))
        · by_cases h5 : k = sPass
          · exact .inr (.inr (.inr (.inr (.inl h5))))
          · by_cases h6 : k = sRetire
            · exact .inr (.inr (.inr (.inr (.inr (.inl h6)))))
            · exact .inr (.inr (.inr (.inr (.inr (.inr ⟨h1, h2, h3, h4, h5, h6⟩)))))
theorem find_none {k : Str} (h : k ≠ sMark ∧ k ≠ sFoul ∧ k ≠ sClear ∧ k ≠ sFail ∧ k ≠ sPass ∧ k ≠ sRetire) (hts : Bool) : findA (.str k) (kn hts) 0 = some none := by
  obtain ⟨h1, h2, h3, h4, h5, h6⟩ := h
  simp only [kn, kEs, findA, keyEq, beq_eq_false_iff_ne.2 h1, beq_eq_false_iff_ne.2 h2, beq_eq_false_iff_ne.2 h3, beq_eq_false_iff_ne.2 h4, beq_eq_false_iff_ne.2 h5, beq_eq_false_iff_ne.2 h6]
theorem kindM_none {k : Str} (hk : k ≠ sMark ∧ k ≠ sFoul ∧ k ≠ sClear ∧ k ≠ sFail ∧ k ≠ sPass ∧ k ≠ sRetire) (hts : Bool) : kindM k hts = none := by
  obtain ⟨h1, h2, h3, h4, h5, h6⟩ := hk
  simp only [kindM]
  rw [if_neg (by rintro (h | h) <;> contradiction), if_neg h1, if_neg h2, if_neg (by rintro (h | h) <;> contradiction)]
theorem w16 (C : C16 M) (a : Act) (hts : Bool) (hw : a.who.length < 1000000) : Run M 16 [.agg (actC a), .bool hts] [] ⟨.int .i64 (actE a hts), [], []⟩ := by
  obtain ⟨who, kind, val⟩ := a
  have fin : ∀ known m, res16 who val known m = actE ⟨who, kind, val⟩ hts → Run M 16 [.agg [.str who, .str kind, .int .i64 val], .bool hts] [] ⟨.int .i64 (res16 who val known m), [], []⟩ → Run M 16 [.agg (actC ⟨who, kind, val⟩), .bool hts] [] ⟨.int .i64 (actE ⟨who, kind, val⟩ hts), [], []⟩ := fun known m e h => by
    rw [e] at h; exact h
  rcases kind_cases kind with rfl | rfl | rfl | rfl | rfl | rfl | hk
  · exact fin _ _ (by cases hts <;> rw [res16_eq] <;> rfl) (l16 C hts true false 999999 120 [] 0 who _ val hw (by cases hts <;> rfl))
  · exact fin _ _ (by cases hts <;> rw [res16_eq] <;> rfl) (l16 C hts true false 0 121 [] 1 who _ val hw (by cases hts <;> rfl))
  · exact fin _ _ (by cases hts <;> rw [res16_eq] <;> rfl) (l16 C hts false true 0 118 [.ptr 2 0] 2 who _ val hw (by cases hts <;> rfl))
  · exact fin _ _ (by cases hts <;> rw [res16_eq] <;> rfl) (l16 C hts false true 0 118 [.ptr 3 0] 3 who _ val hw (by cases hts <;> rfl))
  · cases hts
    · exact fin _ _ (by rw [res16_eq]; rfl) (l16 C false true true 0 119 [] 4 who _ val hw rfl)
    · exact fin _ _ (by rw [res16_eq]; rfl) (l16 C true true true 0 118 [.ptr 4 0] 4 who _ val hw rfl)
  · exact fin _ _ (by cases hts <;> rw [res16_eq] <;> rfl) (l16 C hts true true 0 122 [] 5 who _ val hw (by cases hts <;> rfl))
  · have e := kindM_none hk hts
    exact fin _ _ (by rw [res16_eq, actE]; simp only [e]; rfl) (l16n C hts who _ val hw (find_none hk hts))
end Go.Ab.Ch6


/-
  Own work: acts: the reference's check, and the checks of lists.
-/
namespace Go.Ab.Ch6
variable {M : Mach} {cap : Option Nat}

set_option maxHeartbeats 1000000 in
theorem w17 (hft : M.FT = FT) (c68 : ∀ (s : Str) h, s.length < 1000000 → M.ext 68 [.str s] h = some ⟨.bool (isName s), h, []⟩) (a : Act) (hts : Bool) (hw : a.who.length < 1000000) : Run M 17 [.agg (actC a), .bool hts] [] ⟨.int .i64 (actE a hts), [], []⟩ := by
  obtain ⟨who, kind, val⟩ := a
  have q68 := fun h => c68 who h hw
  refine run_of_W (by rw [hft]; exact ft17) (by simp) ?_
  unfold b17 actC
  simp only [List.map_cons, List.map_nil, List.getElem?_cons_zero, List.getElem?_cons_succ, List.getElem?_nil, Option.getD_some, Option.getD_none]
  cases hn : isName who
  · rw [hn] at q68
    repeat' first | apply W.seq | apply SQn | apply W.region | apply WO.nil | apply W.block | apply W.ret | apply W.exit | apply W.skip | apply SQr | apply SQe | apply BQn | apply BQr | apply BQe | (apply BQo; exact rfl) | apply LQe | apply LQr | apply LIe | apply LIr | (apply W.condT; exact rfl) | (apply W.condF; exact rfl) | (apply W.cond; exact rfl; all_goals intro _) | (apply WO.gT; exact rfl) | (apply WO.gF; exact rfl) | (apply WO.sT; exact rfl) | (apply WO.sF; exact rfl) | (apply WO.sU; exact rfl) | (apply WO.lss; exact rfl; exact rfl; all_goals first | (intro _; exfalso; omega) | intro _) | (apply WO.gtr; exact rfl; exact rfl; all_goals first | (intro _; exfalso; omega) | intro _) | (apply WO.eql; exact rfl; exact rfl; all_goals first | (intro _; exfalso; omega) | intro _) | (apply WO.pkT; exact rfl; exact rfl) | (apply WO.pkF; exact rfl; exact rfl) | (apply WO.cll; exact rfl; exact rfl; first | exact q68 _) | (apply WO.seql; exact rfl; exact rfl; all_goals first | (intro h; exact absurd h (by decide)) | (intro h; exact absurd rfl h) | (intro h; contradiction) | intro _) | (apply WO.clb; exact rfl; exact rfl; exact rfl; all_goals first | (intro h; exact absurd h (by decide)) | intro _) | (apply WO.cll; exact rfl; exact rfl; exact rfl) | (apply WO.hlv; exact rfl; exact rfl; exact rfl) | (apply WO.hpv; exact rfl; exact rfl; exact rfl) | (apply WO.hnv; exact rfl; exact rfl; exact rfl) | (apply WO.pl; exact rfl; exact rfl) | (apply WO.pp; exact rfl; exact rfl)
    exact ⟨.inr rfl, rfl, _, rfl, by simp [actE, hn, tupA], rfl⟩
  · rw [hn] at q68
    rcases kind_cases kind with rfl | rfl | rfl | rfl | rfl | rfl | hk
    · cases hts
      · have e : actE ⟨who, sMark, val⟩ false = if val < 0 ∨ 999999 < val then 3 else 0 := by simp only [actE, hn]; rfl
        rw [e]
        repeat' first | apply W.seq | apply SQn | apply W.region | apply WO.nil | apply W.block | apply W.ret | apply W.exit | apply W.skip | apply SQr | apply SQe | apply BQn | apply BQr | apply BQe | (apply BQo; exact rfl) | apply LQe | apply LQr | apply LIe | apply LIr | (apply W.condT; exact rfl) | (apply W.condF; exact rfl) | (apply W.cond; exact rfl; all_goals intro _) | (apply WO.gT; exact rfl) | (apply WO.gF; exact rfl) | (apply WO.sT; exact rfl) | (apply WO.sF; exact rfl) | (apply WO.sU; exact rfl) | (apply WO.lss; exact rfl; exact rfl; all_goals first | (intro _; exfalso; omega) | intro _) | (apply WO.gtr; exact rfl; exact rfl; all_goals first | (intro _; exfalso; omega) | intro _) | (apply WO.eql; exact rfl; exact rfl; all_goals first | (intro _; exfalso; omega) | intro _) | (apply WO.pkT; exact rfl; exact rfl) | (apply WO.pkF; exact rfl; exact rfl) | (apply WO.cll; exact rfl; exact rfl; first | exact q68 _) | (apply WO.seql; exact rfl; exact rfl; all_goals first | (intro h; exact absurd h (by decide)) | (intro h; exact absurd rfl h) | (intro h; contradiction) | intro _) | (apply WO.clb; exact rfl; exact rfl; exact rfl; all_goals first | (intro h; exact absurd h (by decide)) | intro _) | (apply WO.cll; exact rfl; exact rfl; exact rfl) | (apply WO.hlv; exact rfl; exact rfl; exact rfl) | (apply WO.hpv; exact rfl; exact rfl; exact rfl) | (apply WO.hnv; exact rfl; exact rfl; exact rfl) | (apply WO.pl; exact rfl; exact rfl) | (apply WO.pp; exact rfl; exact rfl)
        all_goals exact ⟨.inr rfl, rfl, _, rfl, congrArg (AV.int .i64) (by first | rw [if_pos (by omega)] | rw [if_neg (by omega)]), rfl⟩
      · have e : actE ⟨who, sMark, val⟩ true = 13 := by simp only [actE, hn]; rfl
        rw [e]
        repeat' first | apply W.seq | apply SQn | apply W.region | apply WO.nil | apply W.block | apply W.ret | apply W.exit | apply W.skip | apply SQr | apply SQe | apply BQn | apply BQr | apply BQe | (apply BQo; exact rfl) | apply LQe | apply LQr | apply LIe | apply LIr | (apply W.condT; exact rfl) | (apply W.condF; exact rfl) | (apply W.cond; exact rfl; all_goals intro _) | (apply WO.gT; exact rfl) | (apply WO.gF; exact rfl) | (apply WO.sT; exact rfl) | (apply WO.sF; exact rfl) | (apply WO.sU; exact rfl) | (apply WO.lss; exact rfl; exact rfl; all_goals first | (intro _; exfalso; omega) | intro _) | (apply WO.gtr; exact rfl; exact rfl; all_goals first | (intro _; exfalso; omega) | intro _) | (apply WO.eql; exact rfl; exact rfl; all_goals first | (intro _; exfalso; omega) | intro _) | (apply WO.pkT; exact rfl; exact rfl) | (apply WO.pkF; exact rfl; exact rfl) | (apply WO.cll; exact rfl; exact rfl; first | exact q68 _) | (apply WO.seql; exact rfl; exact rfl; all_goals first | (intro h; exact absurd h (by decide)) | (intro h; exact absurd rfl h) | (intro h; contradiction) | intro _) | (apply WO.clb; exact rfl; exact rfl; exact rfl; all_goals first | (intro h; exact absurd h (by decide)) | intro _) | (apply WO.cll; exact rfl; exact rfl; exact rfl) | (apply WO.hlv; exact rfl; exact rfl; exact rfl) | (apply WO.hpv; exact rfl; exact rfl; exact rfl) | (apply WO.hnv; exact rfl; exact rfl; exact rfl) | (apply WO.pl; exact rfl; exact rfl) | (apply WO.pp; exact rfl; exact rfl)
        exact ⟨.inr rfl, rfl, _, rfl, rfl, rfl⟩
    · cases hts
      · have e : actE ⟨who, sFoul, val⟩ false = if val < 0 ∨ 0 < val then 3 else 0 := by simp only [actE, hn]; rfl
        rw [e]
        repeat' first | apply W.seq | apply SQn | apply W.region | apply WO.nil | apply W.block | apply W.ret | apply W.exit | apply W.skip | apply SQr | apply SQe | apply BQn | apply BQr | apply BQe | (apply BQo; exact rfl) | apply LQe | apply LQr | apply LIe | apply LIr | (apply W.condT; exact rfl) | (apply W.condF; exact rfl) | (apply W.cond; exact rfl; all_goals intro _) | (apply WO.gT; exact rfl) | (apply WO.gF; exact rfl) | (apply WO.sT; exact rfl) | (apply WO.sF; exact rfl) | (apply WO.sU; exact rfl) | (apply WO.lss; exact rfl; exact rfl; all_goals first | (intro _; exfalso; omega) | intro _) | (apply WO.gtr; exact rfl; exact rfl; all_goals first | (intro _; exfalso; omega) | intro _) | (apply WO.eql; exact rfl; exact rfl; all_goals first | (intro _; exfalso; omega) | intro _) | (apply WO.pkT; exact rfl; exact rfl) | (apply WO.pkF; exact rfl; exact rfl) | (apply WO.cll; exact rfl; exact rfl; first | exact q68 _) | (apply WO.seql; exact rfl; exact rfl; all_goals first | (intro h; exact absurd h (by decide)) | (intro h; exact absurd rfl h) | (intro h; contradiction) | intro _) | (apply WO.clb; exact rfl; exact rfl; exact rfl; all_goals first | (intro h; exact absurd h (by decide)) | intro _) | (apply WO.cll; exact rfl; exact rfl; exact rfl) | (apply WO.hlv; exact rfl; exact rfl; exact rfl) | (apply WO.hpv; exact rfl; exact rfl; exact rfl) | (apply WO.hnv; exact rfl; exact rfl; exact rfl) | (apply WO.pl; exact rfl; exact rfl) | (apply WO.pp; exact rfl; exact rfl)
        all_goals exact ⟨.inr rfl, rfl, _, rfl, congrArg (AV.int .i64) (by first | rw [if_pos (by omega)] | rw [if_neg (by omega)]), rfl⟩
      · have e : actE ⟨who, sFoul, val⟩ true = 13 := by simp only [actE, hn]; rfl
        rw [e]
        repeat' first | apply W.seq | apply SQn | apply W.region | apply WO.nil | apply W.block | apply W.ret | apply W.exit | apply W.skip | apply SQr | apply SQe | apply BQn | apply BQr | apply BQe | (apply BQo; exact rfl) | apply LQe | apply LQr | apply LIe | apply LIr | (apply W.condT; exact rfl) | (apply W.condF; exact rfl) | (apply W.cond; exact rfl; all_goals intro _) | (apply WO.gT; exact rfl) | (apply WO.gF; exact rfl) | (apply WO.sT; exact rfl) | (apply WO.sF; exact rfl) | (apply WO.sU; exact rfl) | (apply WO.lss; exact rfl; exact rfl; all_goals first | (intro _; exfalso; omega) | intro _) | (apply WO.gtr; exact rfl; exact rfl; all_goals first | (intro _; exfalso; omega) | intro _) | (apply WO.eql; exact rfl; exact rfl; all_goals first | (intro _; exfalso; omega) | intro _) | (apply WO.pkT; exact rfl; exact rfl) | (apply WO.pkF; exact rfl; exact rfl) | (apply WO.cll; exact rfl; exact rfl; first | exact q68 _) | (apply WO.seql; exact rfl; exact rfl; all_goals first | (intro h; exact absurd h (by decide)) | (intro h; exact absurd rfl h) | (intro h; contradiction) | intro _) | (apply WO.clb; exact rfl; exact rfl; exact rfl; all_goals first | (intro h; exact absurd h (by decide)) | intro _) | (apply WO.cll; exact rfl; exact rfl; exact rfl) | (apply WO.hlv; exact rfl; exact rfl; exact rfl) | (apply WO.hpv; exact rfl; exact rfl; exact rfl) | (apply WO.hnv; exact rfl; exact rfl; exact rfl) | (apply WO.pl; exact rfl; exact rfl) | (apply WO.pp; exact rfl; exact rfl)
        exact ⟨.inr rfl, rfl, _, rfl, rfl, rfl⟩
    · cases hts
      · have e : actE ⟨who, sClear, val⟩ false = 13 := by simp only [actE, hn]; rfl
        rw [e]
        repeat' first | apply W.seq | apply SQn | apply W.region | apply WO.nil | apply W.block | apply W.ret | apply W.exit | apply W.skip | apply SQr | apply SQe | apply BQn | apply BQr | apply BQe | (apply BQo; exact rfl) | apply LQe | apply LQr | apply LIe | apply LIr | (apply W.condT; exact rfl) | (apply W.condF; exact rfl) | (apply W.cond; exact rfl; all_goals intro _) | (apply WO.gT; exact rfl) | (apply WO.gF; exact rfl) | (apply WO.sT; exact rfl) | (apply WO.sF; exact rfl) | (apply WO.sU; exact rfl) | (apply WO.lss; exact rfl; exact rfl; all_goals first | (intro _; exfalso; omega) | intro _) | (apply WO.gtr; exact rfl; exact rfl; all_goals first | (intro _; exfalso; omega) | intro _) | (apply WO.eql; exact rfl; exact rfl; all_goals first | (intro _; exfalso; omega) | intro _) | (apply WO.pkT; exact rfl; exact rfl) | (apply WO.pkF; exact rfl; exact rfl) | (apply WO.cll; exact rfl; exact rfl; first | exact q68 _) | (apply WO.seql; exact rfl; exact rfl; all_goals first | (intro h; exact absurd h (by decide)) | (intro h; exact absurd rfl h) | (intro h; contradiction) | intro _) | (apply WO.clb; exact rfl; exact rfl; exact rfl; all_goals first | (intro h; exact absurd h (by decide)) | intro _) | (apply WO.cll; exact rfl; exact rfl; exact rfl) | (apply WO.hlv; exact rfl; exact rfl; exact rfl) | (apply WO.hpv; exact rfl; exact rfl; exact rfl) | (apply WO.hnv; exact rfl; exact rfl; exact rfl) | (apply WO.pl; exact rfl; exact rfl) | (apply WO.pp; exact rfl; exact rfl)
        exact ⟨.inr rfl, rfl, _, rfl, rfl, rfl⟩
      · have e : actE ⟨who, sClear, val⟩ true = if val < 0 ∨ 0 < val then 3 else 0 := by simp only [actE, hn]; rfl
        rw [e]
        repeat' first | apply W.seq | apply SQn | apply W.region | apply WO.nil | apply W.block | apply W.ret | apply W.exit | apply W.skip | apply SQr | apply SQe | apply BQn | apply BQr | apply BQe | (apply BQo; exact rfl) | apply LQe | apply LQr | apply LIe | apply LIr | (apply W.condT; exact rfl) | (apply W.condF; exact rfl) | (apply W.cond; exact rfl; all_goals intro _) | (apply WO.gT; exact rfl) | (apply WO.gF; exact rfl) | (apply WO.sT; exact rfl) | (apply WO.sF; exact rfl) | (apply WO.sU; exact rfl) | (apply WO.lss; exact rfl; exact rfl; all_goals first | (intro _; exfalso; omega) | intro _) | (apply WO.gtr; exact rfl; exact rfl; all_goals first | (intro _; exfalso; omega) | intro _) | (apply WO.eql; exact rfl; exact rfl; all_goals first | (intro _; exfalso; omega) | intro _) | (apply WO.pkT; exact rfl; exact rfl) | (apply WO.pkF; exact rfl; exact rfl) | (apply WO.cll; exact rfl; exact rfl; first | exact q68 _) | (apply WO.seql; exact rfl; exact rfl; all_goals first | (intro h; exact absurd h (by decide)) | (intro h; exact absurd rfl h) | (intro h; contradiction) | intro _) | (apply WO.clb; exact rfl; exact rfl; exact rfl; all_goals first | (intro h; exact absurd h (by decide)) | intro _) | (apply WO.cll; exact rfl; exact rfl; exact rfl) | (apply WO.hlv; exact rfl; exact rfl; exact rfl) | (apply WO.hpv; exact rfl; exact rfl; exact rfl) | (apply WO.hnv; exact rfl; exact rfl; exact rfl) | (apply WO.pl; exact rfl; exact rfl) | (apply WO.pp; exact rfl; exact rfl)
        all_goals exact ⟨.inr rfl, rfl, _, rfl, congrArg (AV.int .i64) (by first | rw [if_pos (by omega)] | rw [if_neg (by omega)]), rfl⟩
    · cases hts
      · have e : actE ⟨who, sFail, val⟩ false = 13 := by simp only [actE, hn]; rfl
        rw [e]
        repeat' first | apply W.seq | apply SQn | apply W.region | apply WO.nil | apply W.block | apply W.ret | apply W.exit | apply W.skip | apply SQr | apply SQe | apply BQn | apply BQr | apply BQe | (apply BQo; exact rfl) | apply LQe | apply LQr | apply LIe | apply LIr | (apply W.condT; exact rfl) | (apply W.condF; exact rfl) | (apply W.cond; exact rfl; all_goals intro _) | (apply WO.gT; exact rfl) | (apply WO.gF; exact rfl) | (apply WO.sT; exact rfl) | (apply WO.sF; exact rfl) | (apply WO.sU; exact rfl) | (apply WO.lss; exact rfl; exact rfl; all_goals first | (intro _; exfalso; omega) | intro _) | (apply WO.gtr; exact rfl; exact rfl; all_goals first | (intro _; exfalso; omega) | intro _) | (apply WO.eql; exact rfl; exact rfl; all_goals first | (intro _; exfalso; omega) | intro _) | (apply WO.pkT; exact rfl; exact rfl) | (apply WO.pkF; exact rfl; exact rfl) | (apply WO.cll; exact rfl; exact rfl; first | exact q68 _) | (apply WO.seql; exact rfl; exact rfl; all_goals first | (intro h; exact absurd h (by decide)) | (intro h; exact absurd rfl h) | (intro h; contradiction) | intro _) | (apply WO.clb; exact rfl; exact rfl; exact rfl; all_goals first | (intro h; exact absurd h (by decide)) | intro _) | (apply WO.cll; exact rfl; exact rfl; exact rfl) | (apply WO.hlv; exact rfl; exact rfl; exact rfl) | (apply WO.hpv; exact rfl; exact rfl; exact rfl) | (apply WO.hnv; exact rfl; exact rfl; exact rfl) | (apply WO.pl; exact rfl; exact rfl) | (apply WO.pp; exact rfl; exact rfl)
        exact ⟨.inr rfl, rfl, _, rfl, rfl, rfl⟩
      · have e : actE ⟨who, sFail, val⟩ true = if val < 0 ∨ 0 < val then 3 else 0 := by simp only [actE, hn]; rfl
        rw [e]
        repeat' first | apply W.seq | apply SQn | apply W.region | apply WO.nil | apply W.block | apply W.ret | apply W.exit | apply W.skip | apply SQr | apply SQe | apply BQn | apply BQr | apply BQe | (apply BQo; exact rfl) | apply LQe | apply LQr | apply LIe | apply LIr | (apply W.condT; exact rfl) | (apply W.condF; exact rfl) | (apply W.cond; exact rfl; all_goals intro _) | (apply WO.gT; exact rfl) | (apply WO.gF; exact rfl) | (apply WO.sT; exact rfl) | (apply WO.sF; exact rfl) | (apply WO.sU; exact rfl) | (apply WO.lss; exact rfl; exact rfl; all_goals first | (intro _; exfalso; omega) | intro _) | (apply WO.gtr; exact rfl; exact rfl; all_goals first | (intro _; exfalso; omega) | intro _) | (apply WO.eql; exact rfl; exact rfl; all_goals first | (intro _; exfalso; omega) | intro _) | (apply WO.pkT; exact rfl; exact rfl) | (apply WO.pkF; exact rfl; exact rfl) | (apply WO.cll; exact rfl; exact rfl; first | exact q68 _) | (apply WO.seql; exact rfl; exact rfl; all_goals first | (intro h; exact absurd h (by decide)) | (intro h; exact absurd rfl h) | (intro h; contradiction) | intro _) | (apply WO.clb; exact rfl; exact rfl; exact rfl; all_goals first | (intro h; exact absurd h (by decide)) | intro _) | (apply WO.cll; exact rfl; exact rfl; exact rfl) | (apply WO.hlv; exact rfl; exact rfl; exact rfl) | (apply WO.hpv; exact rfl; exact rfl; exact rfl) | (apply WO.hnv; exact rfl; exact rfl; exact rfl) | (apply WO.pl; exact rfl; exact rfl) | (apply WO.pp; exact rfl; exact rfl)
        all_goals exact ⟨.inr rfl, rfl, _, rfl, congrArg (AV.int .i64) (by first | rw [if_pos (by omega)] | rw [if_neg (by omega)]), rfl⟩
    · have e : actE ⟨who, sPass, val⟩ hts = if val < 0 ∨ 0 < val then 3 else 0 := by simp only [actE, hn]; rfl
      rw [e]
      repeat' first | apply W.seq | apply SQn | apply W.region | apply WO.nil | apply W.block | apply W.ret | apply W.exit | apply W.skip | apply SQr | apply SQe | apply BQn | apply BQr | apply BQe | (apply BQo; exact rfl) | apply LQe | apply LQr | apply LIe | apply LIr | (apply W.condT; exact rfl) | (apply W.condF; exact rfl) | (apply W.cond; exact rfl; all_goals intro _) | (apply WO.gT; exact rfl) | (apply WO.gF; exact rfl) | (apply WO.sT; exact rfl) | (apply WO.sF; exact rfl) | (apply WO.sU; exact rfl) | (apply WO.lss; exact rfl; exact rfl; all_goals first | (intro _; exfalso; omega) | intro _) | (apply WO.gtr; exact rfl; exact rfl; all_goals first | (intro _; exfalso; omega) | intro _) | (apply WO.eql; exact rfl; exact rfl; all_goals first | (intro _; exfalso; omega) | intro _) | (apply WO.pkT; exact rfl; exact rfl) | (apply WO.pkF; exact rfl; exact rfl) | (apply WO.cll; exact rfl; exact rfl; first | exact q68 _) | (apply WO.seql; exact rfl; exact rfl; all_goals first | (intro h; exact absurd h (by decide)) | (intro h; exact absurd rfl h) | (intro h; contradiction) | intro _) | (apply WO.clb; exact rfl; exact rfl; exact rfl; all_goals first | (intro h; exact absurd h (by decide)) | intro _) | (apply WO.cll; exact rfl; exact rfl; exact rfl) | (apply WO.hlv; exact rfl; exact rfl; exact rfl) | (apply WO.hpv; exact rfl; exact rfl; exact rfl) | (apply WO.hnv; exact rfl; exact rfl; exact rfl) | (apply WO.pl; exact rfl; exact rfl) | (apply WO.pp; exact rfl; exact rfl)
      all_goals exact ⟨.inr rfl, rfl, _, rfl, congrArg (AV.int .i64) (by first | rw [if_pos (by omega)] | rw [if_neg (by omega)]), rfl⟩
    · have e : actE ⟨who, sRetire, val⟩ hts = if val < 0 ∨ 0 < val then 3 else 0 := by simp only [actE, hn]; rfl
      rw [e]
      repeat' first | apply W.seq | apply SQn | apply W.region | apply WO.nil | apply W.block | apply W.ret | apply W.exit | apply W.skip | apply SQr | apply SQe | apply BQn | apply BQr | apply BQe | (apply BQo; exact rfl) | apply LQe | apply LQr | apply LIe | apply LIr | (apply W.condT; exact rfl) | (apply W.condF; exact rfl) | (apply W.cond; exact rfl; all_goals intro _) | (apply WO.gT; exact rfl) | (apply WO.gF; exact rfl) | (apply WO.sT; exact rfl) | (apply WO.sF; exact rfl) | (apply WO.sU; exact rfl) | (apply WO.lss; exact rfl; exact rfl; all_goals first | (intro _; exfalso; omega) | intro _) | (apply WO.gtr; exact rfl; exact rfl; all_goals first | (intro _; exfalso; omega) | intro _) | (apply WO.eql; exact rfl; exact rfl; all_goals first | (intro _; exfalso; omega) | intro _) | (apply WO.pkT; exact rfl; exact rfl) | (apply WO.pkF; exact rfl; exact rfl) | (apply WO.cll; exact rfl; exact rfl; first | exact q68 _) | (apply WO.seql; exact rfl; exact rfl; all_goals first | (intro h; exact absurd h (by decide)) | (intro h; exact absurd rfl h) | (intro h; contradiction) | intro _) | (apply WO.clb; exact rfl; exact rfl; exact rfl; all_goals first | (intro h; exact absurd h (by decide)) | intro _) | (apply WO.cll; exact rfl; exact rfl; exact rfl) | (apply WO.hlv; exact rfl; exact rfl; exact rfl) | (apply WO.hpv; exact rfl; exact rfl; exact rfl) | (apply WO.hnv; exact rfl; exact rfl; exact rfl) | (apply WO.pl; exact rfl; exact rfl) | (apply WO.pp; exact rfl; exact rfl)
      all_goals exact ⟨.inr rfl, rfl, _, rfl, congrArg (AV.int .i64) (by first | rw [if_pos (by omega)] | rw [if_neg (by omega)]), rfl⟩
    · have e : actE ⟨who, kind, val⟩ hts = 13 := by
        simp only [actE, hn, kindM_none hk hts]; rfl
      rw [e]
      have h1 : kind ≠ [109, 97, 114, 107] := hk.1
      have h2 : kind ≠ [102, 111, 117, 108] := hk.2.1
      have h3 : kind ≠ [99, 108, 101, 97, 114] := hk.2.2.1
      have h4 : kind ≠ [102, 97, 105, 108] := hk.2.2.2.1
      have h5 : kind ≠ [112, 97, 115, 115] := hk.2.2.2.2.1
      have h6 : kind ≠ [114, 101, 116, 105, 114, 101] := hk.2.2.2.2.2
      repeat' first | apply W.seq | apply SQn | apply W.region | apply WO.nil | apply W.block | apply W.ret | apply W.exit | apply W.skip | apply SQr | apply SQe | apply BQn | apply BQr | apply BQe | (apply BQo; exact rfl) | apply LQe | apply LQr | apply LIe | apply LIr | (apply W.condT; exact rfl) | (apply W.condF; exact rfl) | (apply W.cond; exact rfl; all_goals intro _) | (apply WO.gT; exact rfl) | (apply WO.gF; exact rfl) | (apply WO.sT; exact rfl) | (apply WO.sF; exact rfl) | (apply WO.sU; exact rfl) | (apply WO.lss; exact rfl; exact rfl; all_goals first | (intro _; exfalso; omega) | intro _) | (apply WO.gtr; exact rfl; exact rfl; all_goals first | (intro _; exfalso; omega) | intro _) | (apply WO.eql; exact rfl; exact rfl; all_goals first | (intro _; exfalso; omega) | intro _) | (apply WO.pkT; exact rfl; exact rfl) | (apply WO.pkF; exact rfl; exact rfl) | (apply WO.cll; exact rfl; exact rfl; first | exact q68 _) | (apply WO.seql; exact rfl; exact rfl; all_goals first | (intro h; exact absurd h (by decide)) | (intro h; exact absurd rfl h) | (intro h; contradiction) | intro _) | (apply WO.clb; exact rfl; exact rfl; exact rfl; all_goals first | (intro h; exact absurd h (by decide)) | intro _) | (apply WO.cll; exact rfl; exact rfl; exact rfl) | (apply WO.hlv; exact rfl; exact rfl; exact rfl) | (apply WO.hpv; exact rfl; exact rfl; exact rfl) | (apply WO.hnv; exact rfl; exact rfl; exact rfl) | (apply WO.pl; exact rfl; exact rfl) | (apply WO.pp; exact rfl; exact rfl)
      all_goals exact ⟨.inr rfl, rfl, _, rfl, rfl, rfl⟩

/-! Lists of acts. -/
theorem len_act (l : List Act) : (acts l).length = l.length * 3 := arr_length (f := actC) (esz := 3) (fun _ => rfl) l
theorem one_act (l : List Act) : (acts l).all oneA = true := one_arr (fun _ => rfl) l
theorem loop21 (c17 : ∀ (a : Act) hts h, (Act.who a).length < 1000000 → M.ext 17 [.agg (actC a), .bool hts] h = some ⟨.int .i64 (actE a hts), h, []⟩) (l : List Act) (hts : Bool) (hL : ∀ a ∈ l, a.who.length < 1000000) (hl : l.length < 1000000) {Q : Ex → StW → Prop} : ∀ (r i : Nat) (a4 : AV) (lo : List (Nat × AV)) (wr : List Nat), i + r = l.length →
    (firstE hts (l.drop i) = 0 → ∀ a4 lo, Q (.exit 0) ⟨⟨[.vs (acts l) l.length cap, .bool hts, .int .i64 0, .int .i64 l.length, a4], lo, [], []⟩, wr⟩) →
    (∀ a3 a4 lo, Q .ret ⟨⟨[.vs (acts l) l.length cap, .bool hts, .int .i64 (firstE hts (l.drop i)), a3, a4], lo, [], []⟩, wr⟩) →
    W M (.loop b21_0) ⟨⟨[.vs (acts l) l.length cap, .bool hts, .int .i64 0, .int .i64 i, a4], lo, [], []⟩, wr⟩ Q := by
  intro r
  induction r with
  | zero =>
    intro i a4 lo wr hi h1 h2
    obtain rfl : i = l.length := by omega
    refine W.loop ?_
    unfold b21_0
    repeat' first | apply W.seq | apply SQn | apply W.region | apply WO.nil | apply W.block | apply W.ret | apply W.exit | apply W.skip | apply SQr | apply SQe | apply BQn | apply BQr | apply BQe | (apply BQo; exact rfl) | apply LQe | apply LQr | apply LIe | apply LIr | (apply W.condT; exact rfl) | (apply W.condF; exact rfl) | (apply W.cond; exact rfl; all_goals intro _) | (apply WO.lss; exact rfl; exact rfl; all_goals first | (intro _; exfalso; omega) | intro _) | (apply WO.neq; exact rfl; exact rfl; all_goals first | (intro _; exfalso; omega) | intro _) | (apply WO.add; exact rfl; exact rfl; omega) | (apply WO.iav; exact rfl; exact rfl; omega) | (apply WO.ias; exact rfl; exact rfl; omega) | (apply WO.lda; exact rfl; exact fun _ => rfl; (first | omega | (simp only [List.length_set]; omega) | (simp; omega)); decide; exact rfl; case ia => infer_instance) | (apply WO.lsa; exact rfl; (first | exact rfl | assumption | exact at_new | (apply at_old; assumption) | (apply at_put; first | assumption | (simp only [put_length]; assumption))); exact fun _ => rfl; (first | omega | (simp only [List.length_set]; omega) | (simp; omega)); decide; exact rfl; case ia => infer_instance) | (apply WO.sneq; exact rfl; exact rfl; all_goals first | (intro h; exact absurd h (by decide)) | (intro h; exact absurd rfl h) | (intro h; contradiction) | intro _) | (apply WO.clb; exact rfl; exact rfl; exact rfl; all_goals first | (intro h; exact absurd h (by decide)) | intro _) | (apply WO.cll; exact rfl; exact rfl; exact rfl) | (apply WO.hlv; exact rfl; exact rfl; exact rfl) | (apply WO.hpv; exact rfl; exact rfl; exact rfl) | (apply WO.hnv; exact rfl; exact rfl; exact rfl) | (apply WO.pl; exact rfl; exact rfl) | (apply WO.pp; exact rfl; exact rfl)
    exact h1 (by rw [List.drop_length]; rfl) _ _
  | succ r ih =>
    intro i a4 lo wr hi h1 h2
    have hil : i < l.length := by omega
    have e := firstE_drop (hts := hts) hil
    have q17 := fun h => c17 l[((i : Int)).toNat]! hts h (by rw [Int.toNat_natCast, getElem!_pos l i hil]; exact hL _ (List.getElem_mem hil))
    refine W.loop ?_
    unfold b21_0
    by_cases hE : actE l[i]! hts = 0
    · have hE' : actE l[((i : Int)).toNat]! hts = 0 := hE
      rw [if_neg (fun h => h hE)] at e
      rw [e] at h1 h2
      rw [hE'] at q17
      repeat' first | apply W.seq | apply SQn | apply W.region | apply WO.nil | apply W.block | apply W.ret | apply W.exit | apply W.skip | apply SQr | apply SQe | apply BQn | apply BQr | apply BQe | (apply BQo; exact rfl) | apply LQe | apply LQr | apply LIe | apply LIr | (apply W.condT; exact rfl) | (apply W.condF; exact rfl) | (apply W.cond; exact rfl; all_goals intro _) | (apply WO.lss; exact rfl; exact rfl; all_goals first | (intro _; exfalso; omega) | intro _) | (apply WO.neq; exact rfl; exact rfl; all_goals first | (intro _; exfalso; omega) | intro _) | (apply WO.add; exact rfl; exact rfl; omega) | (apply WO.cll; exact rfl; exact rfl; first | exact q17 _) | (apply WO.iav; exact rfl; exact rfl; omega) | (apply WO.ias; exact rfl; exact rfl; omega) | (apply WO.lda; exact rfl; exact fun _ => rfl; (first | omega | (simp only [List.length_set]; omega) | (simp; omega)); decide; exact rfl; case ia => infer_instance) | (apply WO.lsa; exact rfl; (first | exact rfl | assumption | exact at_new | (apply at_old; assumption) | (apply at_put; first | assumption | (simp only [put_length]; assumption))); exact fun _ => rfl; (first | omega | (simp only [List.length_set]; omega) | (simp; omega)); decide; exact rfl; case ia => infer_instance) | (apply WO.sneq; exact rfl; exact rfl; all_goals first | (intro h; exact absurd h (by decide)) | (intro h; exact absurd rfl h) | (intro h; contradiction) | intro _) | (apply WO.clb; exact rfl; exact rfl; exact rfl; all_goals first | (intro h; exact absurd h (by decide)) | intro _) | (apply WO.cll; exact rfl; exact rfl; exact rfl) | (apply WO.hlv; exact rfl; exact rfl; exact rfl) | (apply WO.hpv; exact rfl; exact rfl; exact rfl) | (apply WO.hnv; exact rfl; exact rfl; exact rfl) | (apply WO.pl; exact rfl; exact rfl) | (apply WO.pp; exact rfl; exact rfl)
      refine LQn ?_
      exact ih (i + 1) _ _ _ (by omega) h1 h2
    · have hE' : ¬ actE l[((i : Int)).toNat]! hts = 0 := hE
      rw [if_pos hE] at e
      rw [e] at h2
      repeat' first | apply W.seq | apply SQn | apply W.region | apply WO.nil | apply W.block | apply W.ret | apply W.exit | apply W.skip | apply SQr | apply SQe | apply BQn | apply BQr | apply BQe | (apply BQo; exact rfl) | apply LQe | apply LQr | apply LIe | apply LIr | (apply W.condT; exact rfl) | (apply W.condF; exact rfl) | (apply W.cond; exact rfl; all_goals intro _) | (apply WO.lss; exact rfl; exact rfl; all_goals first | (intro _; exfalso; omega) | intro _) | (apply WO.neq; exact rfl; exact rfl; all_goals first | (intro _; exfalso; omega) | intro _) | (apply WO.add; exact rfl; exact rfl; omega) | (apply WO.cll; exact rfl; exact rfl; first | exact q17 _) | (apply WO.iav; exact rfl; exact rfl; omega) | (apply WO.ias; exact rfl; exact rfl; omega) | (apply WO.lda; exact rfl; exact fun _ => rfl; (first | omega | (simp only [List.length_set]; omega) | (simp; omega)); decide; exact rfl; case ia => infer_instance) | (apply WO.lsa; exact rfl; (first | exact rfl | assumption | exact at_new | (apply at_old; assumption) | (apply at_put; first | assumption | (simp only [put_length]; assumption))); exact fun _ => rfl; (first | omega | (simp only [List.length_set]; omega) | (simp; omega)); decide; exact rfl; case ia => infer_instance) | (apply WO.sneq; exact rfl; exact rfl; all_goals first | (intro h; exact absurd h (by decide)) | (intro h; exact absurd rfl h) | (intro h; contradiction) | intro _) | (apply WO.clb; exact rfl; exact rfl; exact rfl; all_goals first | (intro h; exact absurd h (by decide)) | intro _) | (apply WO.cll; exact rfl; exact rfl; exact rfl) | (apply WO.hlv; exact rfl; exact rfl; exact rfl) | (apply WO.hpv; exact rfl; exact rfl; exact rfl) | (apply WO.hnv; exact rfl; exact rfl; exact rfl) | (apply WO.pl; exact rfl; exact rfl) | (apply WO.pp; exact rfl; exact rfl)
      exact h2 _ _ _
theorem w21 (hft : M.FT = FT) (c17 : ∀ (a : Act) hts h, (Act.who a).length < 1000000 → M.ext 17 [.agg (actC a), .bool hts] h = some ⟨.int .i64 (actE a hts), h, []⟩) (l : List Act) (hts : Bool) (hL : ∀ a ∈ l, a.who.length < 1000000) (hl : l.length < 1000000) : Run M 21 [.vs (acts l) l.length cap, .bool hts] [] ⟨.int .i64 (actsE l hts), [], []⟩ := by
  refine run_of_W (by rw [hft]; exact ft21) (by simp) ?_
  unfold b21
  simp only [List.map_cons, List.map_nil, List.getElem?_cons_zero, List.getElem?_cons_succ, List.getElem?_nil, Option.getD_some, Option.getD_none]
  by_cases h : 1000 < l.length
  · rw [actsE, if_pos h]
    repeat' first | apply W.seq | apply SQn | apply W.region | apply WO.nil | apply W.block | apply W.ret | apply W.exit | apply W.skip | apply SQr | apply SQe | apply BQn | apply BQr | apply BQe | (apply BQo; exact rfl) | apply LQe | apply LQr | apply LIe | apply LIr | (apply W.condT; exact rfl) | (apply W.condF; exact rfl) | (apply W.cond; exact rfl; all_goals intro _) | (apply WO.gtr; exact rfl; exact rfl; all_goals first | (intro _; exfalso; omega) | intro _) | (apply WO.pl; exact rfl; exact rfl) | (apply WO.pp; exact rfl; exact rfl)
    exact ⟨.inr rfl, rfl, _, rfl, rfl, rfl⟩
  · rw [actsE, if_neg h]
    repeat' first | apply W.seq | apply SQn | apply W.region | apply WO.nil | apply W.block | apply W.ret | apply W.exit | apply W.skip | apply SQr | apply SQe | apply BQn | apply BQr | apply BQe | (apply BQo; exact rfl) | apply LQe | apply LQr | apply LIe | apply LIr | (apply W.condT; exact rfl) | (apply W.condF; exact rfl) | (apply W.cond; exact rfl; all_goals intro _) | (apply WO.gtr; exact rfl; exact rfl; all_goals first | (intro _; exfalso; omega) | intro _) | (apply WO.pl; exact rfl; exact rfl) | (apply WO.pp; exact rfl; exact rfl)
    refine loop21 c17 l hts hL hl l.length 0 _ _ _ (by omega) (fun h a4 lo => ?_) (fun a3 a4 lo => ?_)
    · rw [List.drop_zero] at h
      rw [h]
      repeat' first | apply W.seq | apply SQn | apply W.region | apply WO.nil | apply W.block | apply W.ret | apply W.exit | apply W.skip | apply SQr | apply SQe | apply BQn | apply BQr | apply BQe | (apply BQo; exact rfl) | apply LQe | apply LQr | apply LIe | apply LIr | (apply W.condT; exact rfl) | (apply W.condF; exact rfl) | (apply W.cond; exact rfl; all_goals intro _) | (apply WO.gtr; exact rfl; exact rfl; all_goals first | (intro _; exfalso; omega) | intro _) | (apply WO.pl; exact rfl; exact rfl) | (apply WO.pp; exact rfl; exact rfl)
      exact ⟨.inr rfl, rfl, _, rfl, rfl, rfl⟩
    · repeat' first | apply W.seq | apply SQn | apply W.region | apply WO.nil | apply W.block | apply W.ret | apply W.exit | apply W.skip | apply SQr | apply SQe | apply BQn | apply BQr | apply BQe | (apply BQo; exact rfl) | apply LQe | apply LQr | apply LIe | apply LIr | (apply W.condT; exact rfl) | (apply W.condF; exact rfl) | (apply W.cond; exact rfl; all_goals intro _) | (apply WO.gtr; exact rfl; exact rfl; all_goals first | (intro _; exfalso; omega) | intro _) | (apply WO.pl; exact rfl; exact rfl) | (apply WO.pp; exact rfl; exact rfl)
      exact ⟨.inr rfl, rfl, _, rfl, rfl, rfl⟩
end Go.Ab.Ch6


/-
  Own work: acts: lists of acts, checked, copied, corrected.
-/
namespace Go.Ab.Ch6
variable {M : Mach} {cap : Option Nat}

theorem loop69 (c16 : ∀ (a : Act) hts h, (Act.who a).length < 1000000 → M.ext 16 [.agg (actC a), .bool hts] h = some ⟨.int .i64 (actE a hts), h, []⟩) (l : List Act) (hts : Bool) (hL : ∀ a ∈ l, a.who.length < 1000000) (hl : l.length < 1000000) {Q : Ex → StW → Prop} : ∀ (r i : Nat) (a3 a4 : AV) (lo : List (Nat × AV)) (K : Heap) (wr : List Nat), i + r = l.length →
    (firstE hts (l.drop i) = 0 → ∀ a3 a4 lo K wr, Q (.exit 0) ⟨⟨[.vs (acts l) l.length cap, .bool hts, .int .i64 0, a3, a4, .vs (acts l) l.length cap, .int .i64 l.length, .int .i64 l.length], lo, K, []⟩, wr⟩) →
    (∀ a3 a4 a7 lo K wr, Q .ret ⟨⟨[.vs (acts l) l.length cap, .bool hts, .int .i64 (firstE hts (l.drop i)), a3, a4, .vs (acts l) l.length cap, .int .i64 l.length, a7], lo, K, []⟩, wr⟩) →
    W M (.loop b69_0) ⟨⟨[.vs (acts l) l.length cap, .bool hts, .int .i64 0, a3, a4, .vs (acts l) l.length cap, .int .i64 l.length, .int .i64 i], lo, K, []⟩, wr⟩ Q := by
  intro r
  induction r with
  | zero =>
    intro i a3 a4 lo K wr hi h1 h2
    obtain rfl : i = l.length := by omega
    refine W.loop ?_
    unfold b69_0
    repeat' first | apply W.seq | apply SQn | apply W.region | apply WO.nil | apply W.block | apply W.ret | apply W.exit | apply W.skip | apply SQr | apply SQe | apply BQn | apply BQr | apply BQe | (apply BQo; exact rfl) | apply LQe | apply LQr | apply LIe | apply LIr | (apply W.condT; exact rfl) | (apply W.condF; exact rfl) | (apply W.cond; exact rfl; all_goals intro _) | (apply WO.lss; exact rfl; exact rfl; all_goals first | (intro _; exfalso; omega) | intro _) | (apply WO.neq; exact rfl; exact rfl; all_goals first | (intro _; exfalso; omega) | intro _) | (apply WO.add; exact rfl; exact rfl; omega) | (apply WO.cat; exact rfl; exact rfl; first | omega | (simp only [List.length_append, List.length_cons, List.length_nil]; omega) | (simp; omega)) | (apply WO.iav; exact rfl; exact rfl; omega) | (apply WO.ias; exact rfl; exact rfl; omega) | (apply WO.lda; exact rfl; exact fun _ => rfl; (first | omega | (simp only [List.length_set]; omega) | (simp; omega)); decide; exact rfl; case ia => infer_instance) | (apply WO.lsa; exact rfl; (first | exact rfl | assumption | exact at_new | (apply at_old; assumption) | (apply at_put; first | assumption | (simp only [put_length]; assumption))); exact fun _ => rfl; (first | omega | (simp only [List.length_set]; omega) | (simp; omega)); decide; exact rfl; case ia => infer_instance) | (apply WO.sta; exact rfl; exact rfl; (first | exact rfl | assumption | exact at_new | (apply at_old; assumption) | (apply at_put; first | assumption | (simp only [put_length]; assumption))); exact fun _ => rfl; (first | omega | (simp only [List.length_set]; omega) | (simp; omega)); exact ⟨rfl, by decide, rfl⟩; exact rfl; case ia => infer_instance) | (apply WO.sneq; exact rfl; exact rfl; all_goals first | (intro h; exact absurd h (by decide)) | (intro h; exact absurd rfl h) | (intro h; contradiction) | intro _) | (apply WO.clb; exact rfl; exact rfl; exact rfl; all_goals first | (intro h; exact absurd h (by decide)) | intro _) | (apply WO.cll; exact rfl; exact rfl; exact rfl) | (apply WO.hlv; exact rfl; exact rfl; exact rfl) | (apply WO.hpv; exact rfl; exact rfl; exact rfl) | (apply WO.hnv; exact rfl; exact rfl; exact rfl) | (apply WO.pl; exact rfl; exact rfl) | (apply WO.pp; exact rfl; exact rfl)
    exact h1 (by rw [List.drop_length]; rfl) _ _ _ _ _
  | succ r ih =>
    intro i a3 a4 lo K wr hi h1 h2
    have hil : i < l.length := by omega
    have e := firstE_drop (hts := hts) hil
    have q16 := fun h => c16 l[((i : Int)).toNat]! hts h (by rw [Int.toNat_natCast, getElem!_pos l i hil]; exact hL _ (List.getElem_mem hil))
    refine W.loop ?_
    unfold b69_0
    by_cases hE : actE l[i]! hts = 0
    · have hE' : actE l[((i : Int)).toNat]! hts = 0 := hE
      rw [if_neg (fun h => h hE)] at e
      rw [e] at h1 h2
      rw [hE'] at q16
      repeat' first | apply W.seq | apply SQn | apply W.region | apply WO.nil | apply W.block | apply W.ret | apply W.exit | apply W.skip | apply SQr | apply SQe | apply BQn | apply BQr | apply BQe | (apply BQo; exact rfl) | apply LQe | apply LQr | apply LIe | apply LIr | (apply W.condT; exact rfl) | (apply W.condF; exact rfl) | (apply W.cond; exact rfl; all_goals intro _) | (apply WO.lss; exact rfl; exact rfl; all_goals first | (intro _; exfalso; omega) | intro _) | (apply WO.neq; exact rfl; exact rfl; all_goals first | (intro _; exfalso; omega) | intro _) | (apply WO.add; exact rfl; exact rfl; omega) | (apply WO.cat; exact rfl; exact rfl; first | omega | (simp only [List.length_append, List.length_cons, List.length_nil]; omega) | (simp; omega)) | (apply WO.cll; exact rfl; exact rfl; first | exact q16 _) | (apply WO.stK; exact rfl; exact rfl; exact ⟨rfl, Nat.le_refl 3, rfl⟩; exact rfl) | (apply WO.ldK; exact rfl; exact at_new; exact rfl) | (apply WO.iav; exact rfl; exact rfl; omega) | (apply WO.ias; exact rfl; exact rfl; omega) | (apply WO.lda; exact rfl; exact fun _ => rfl; (first | omega | (simp only [List.length_set]; omega) | (simp; omega)); decide; exact rfl; case ia => infer_instance) | (apply WO.lsa; exact rfl; (first | exact rfl | assumption | exact at_new | (apply at_old; assumption) | (apply at_put; first | assumption | (simp only [put_length]; assumption))); exact fun _ => rfl; (first | omega | (simp only [List.length_set]; omega) | (simp; omega)); decide; exact rfl; case ia => infer_instance) | (apply WO.sta; exact rfl; exact rfl; (first | exact rfl | assumption | exact at_new | (apply at_old; assumption) | (apply at_put; first | assumption | (simp only [put_length]; assumption))); exact fun _ => rfl; (first | omega | (simp only [List.length_set]; omega) | (simp; omega)); exact ⟨rfl, by decide, rfl⟩; exact rfl; case ia => infer_instance) | (apply WO.sneq; exact rfl; exact rfl; all_goals first | (intro h; exact absurd h (by decide)) | (intro h; exact absurd rfl h) | (intro h; contradiction) | intro _) | (apply WO.clb; exact rfl; exact rfl; exact rfl; all_goals first | (intro h; exact absurd h (by decide)) | intro _) | (apply WO.cll; exact rfl; exact rfl; exact rfl) | (apply WO.hlv; exact rfl; exact rfl; exact rfl) | (apply WO.hpv; exact rfl; exact rfl; exact rfl) | (apply WO.hnv; exact rfl; exact rfl; exact rfl) | (apply WO.pl; exact rfl; exact rfl) | (apply WO.pp; exact rfl; exact rfl)
      refine LQn ?_
      exact ih (i + 1) _ _ _ _ _ (by omega) h1 h2
    · have hE' : ¬ actE l[((i : Int)).toNat]! hts = 0 := hE
      rw [if_pos hE] at e
      rw [e] at h2
      repeat' first | apply W.seq | apply SQn | apply W.region | apply WO.nil | apply W.block | apply W.ret | apply W.exit | apply W.skip | apply SQr | apply SQe | apply BQn | apply BQr | apply BQe | (apply BQo; exact rfl) | apply LQe | apply LQr | apply LIe | apply LIr | (apply W.condT; exact rfl) | (apply W.condF; exact rfl) | (apply W.cond; exact rfl; all_goals intro _) | (apply WO.lss; exact rfl; exact rfl; all_goals first | (intro _; exfalso; omega) | intro _) | (apply WO.neq; exact rfl; exact rfl; all_goals first | (intro _; exfalso; omega) | intro _) | (apply WO.add; exact rfl; exact rfl; omega) | (apply WO.cat; exact rfl; exact rfl; first | omega | (simp only [List.length_append, List.length_cons, List.length_nil]; omega) | (simp; omega)) | (apply WO.cll; exact rfl; exact rfl; first | exact q16 _) | (apply WO.stK; exact rfl; exact rfl; exact ⟨rfl, Nat.le_refl 3, rfl⟩; exact rfl) | (apply WO.ldK; exact rfl; exact at_new; exact rfl) | (apply WO.iav; exact rfl; exact rfl; omega) | (apply WO.ias; exact rfl; exact rfl; omega) | (apply WO.lda; exact rfl; exact fun _ => rfl; (first | omega | (simp only [List.length_set]; omega) | (simp; omega)); decide; exact rfl; case ia => infer_instance) | (apply WO.lsa; exact rfl; (first | exact rfl | assumption | exact at_new | (apply at_old; assumption) | (apply at_put; first | assumption | (simp only [put_length]; assumption))); exact fun _ => rfl; (first | omega | (simp only [List.length_set]; omega) | (simp; omega)); decide; exact rfl; case ia => infer_instance) | (apply WO.sta; exact rfl; exact rfl; (first | exact rfl | assumption | exact at_new | (apply at_old; assumption) | (apply at_put; first | assumption | (simp only [put_length]; assumption))); exact fun _ => rfl; (first | omega | (simp only [List.length_set]; omega) | (simp; omega)); exact ⟨rfl, by decide, rfl⟩; exact rfl; case ia => infer_instance) | (apply WO.sneq; exact rfl; exact rfl; all_goals first | (intro h; exact absurd h (by decide)) | (intro h; exact absurd rfl h) | (intro h; contradiction) | intro _) | (apply WO.clb; exact rfl; exact rfl; exact rfl; all_goals first | (intro h; exact absurd h (by decide)) | intro _) | (apply WO.cll; exact rfl; exact rfl; exact rfl) | (apply WO.hlv; exact rfl; exact rfl; exact rfl) | (apply WO.hpv; exact rfl; exact rfl; exact rfl) | (apply WO.hnv; exact rfl; exact rfl; exact rfl) | (apply WO.pl; exact rfl; exact rfl) | (apply WO.pp; exact rfl; exact rfl)
      exact h2 _ _ _ _ _ _
theorem w69 (hft : M.FT = FT) (c16 : ∀ (a : Act) hts h, (Act.who a).length < 1000000 → M.ext 16 [.agg (actC a), .bool hts] h = some ⟨.int .i64 (actE a hts), h, []⟩) (l : List Act) (hts : Bool) (hL : ∀ a ∈ l, a.who.length < 1000000) (hl : l.length < 1000000) : Run M 69 [.vs (acts l) l.length cap, .bool hts] [] ⟨.int .i64 (actsE l hts), [], []⟩ := by
  refine run_of_W (by rw [hft]; exact ft69) (by simp) ?_
  unfold b69
  simp only [List.map_cons, List.map_nil, List.getElem?_cons_zero, List.getElem?_cons_succ, List.getElem?_nil, Option.getD_some, Option.getD_none]
  by_cases h : 1000 < l.length
  · rw [actsE, if_pos h]
    repeat' first | apply W.seq | apply SQn | apply W.region | apply WO.nil | apply W.block | apply W.ret | apply W.exit | apply W.skip | apply SQr | apply SQe | apply BQn | apply BQr | apply BQe | (apply BQo; exact rfl) | apply LQe | apply LQr | apply LIe | apply LIr | (apply W.condT; exact rfl) | (apply W.condF; exact rfl) | (apply W.cond; exact rfl; all_goals intro _) | (apply WO.gtr; exact rfl; exact rfl; all_goals first | (intro _; exfalso; omega) | intro _) | (apply WO.pl; exact rfl; exact rfl) | (apply WO.pp; exact rfl; exact rfl)
    exact ⟨.inr rfl, rfl, _, rfl, rfl, rfl⟩
  · rw [actsE, if_neg h]
    repeat' first | apply W.seq | apply SQn | apply W.region | apply WO.nil | apply W.block | apply W.ret | apply W.exit | apply W.skip | apply SQr | apply SQe | apply BQn | apply BQr | apply BQe | (apply BQo; exact rfl) | apply LQe | apply LQr | apply LIe | apply LIr | (apply W.condT; exact rfl) | (apply W.condF; exact rfl) | (apply W.cond; exact rfl; all_goals intro _) | (apply WO.gtr; exact rfl; exact rfl; all_goals first | (intro _; exfalso; omega) | intro _) | (apply WO.pl; exact rfl; exact rfl) | (apply WO.pp; exact rfl; exact rfl)
    refine loop69 c16 l hts hL hl l.length 0 _ _ _ _ _ (by omega) (fun h a3 a4 lo K wr => ?_) (fun a3 a4 a7 lo K wr => ?_)
    · rw [List.drop_zero] at h
      rw [h]
      repeat' first | apply W.seq | apply SQn | apply W.region | apply WO.nil | apply W.block | apply W.ret | apply W.exit | apply W.skip | apply SQr | apply SQe | apply BQn | apply BQr | apply BQe | (apply BQo; exact rfl) | apply LQe | apply LQr | apply LIe | apply LIr | (apply W.condT; exact rfl) | (apply W.condF; exact rfl) | (apply W.cond; exact rfl; all_goals intro _) | (apply WO.gtr; exact rfl; exact rfl; all_goals first | (intro _; exfalso; omega) | intro _) | (apply WO.pl; exact rfl; exact rfl) | (apply WO.pp; exact rfl; exact rfl)
      exact ⟨.inr rfl, rfl, _, rfl, rfl, rfl⟩
    · repeat' first | apply W.seq | apply SQn | apply W.region | apply WO.nil | apply W.block | apply W.ret | apply W.exit | apply W.skip | apply SQr | apply SQe | apply BQn | apply BQr | apply BQe | (apply BQo; exact rfl) | apply LQe | apply LQr | apply LIe | apply LIr | (apply W.condT; exact rfl) | (apply W.condF; exact rfl) | (apply W.cond; exact rfl; all_goals intro _) | (apply WO.gtr; exact rfl; exact rfl; all_goals first | (intro _; exfalso; omega) | intro _) | (apply WO.pl; exact rfl; exact rfl) | (apply WO.pp; exact rfl; exact rfl)
      exact ⟨.inr rfl, rfl, _, rfl, rfl, rfl⟩

theorem w70 (hft : M.FT = FT) (l : List Act) (h0 : l ≠ []) (hl : l.length < 1000000) : Run M 70 [.vs (acts l) l.length cap] [] ⟨.sl 0 0 l.length 3 none, [some (.cells (acts l) 44)], []⟩ := by
  have hp : 0 < l.length := List.length_pos_iff.2 h0
  have hs : ∀ h, sliceCells h (.vs (acts l) l.length cap) = some (acts l, l.length) := fun _ => rfl
  have hroom : l.length * 40 ≤ roomLimit := by unfold roomLimit; omega
  refine run_of_W (by rw [hft]; exact ft70) (by simp) ?_
  unfold b70
  simp only [List.map_cons, List.map_nil, List.getElem?_cons_zero, List.getElem?_cons_succ, List.getElem?_nil, Option.getD_some, Option.getD_none]
  repeat' first | apply W.seq | apply SQn | apply W.region | apply WO.nil | apply W.block | apply W.ret | apply W.exit | apply W.skip | apply SQr | apply SQe | apply BQn | apply BQr | apply BQe | (apply BQo; exact rfl) | apply LQe | apply LQr | apply LIe | apply LIr | (apply W.condT; exact rfl) | (apply W.condF; exact rfl) | (apply W.cond; exact rfl; all_goals intro _) | (apply WO.apn; exact rfl; exact rfl; exact hs _; exact ⟨len_act l, by decide, one_act l⟩; exact ⟨hp, hroom⟩) | (apply WO.hlv; exact rfl; exact rfl; exact rfl) | (apply WO.hpv; exact rfl; exact rfl; exact rfl) | (apply WO.hnv; exact rfl; exact rfl; exact rfl) | (apply WO.pl; exact rfl; exact rfl) | (apply WO.pp; exact rfl; exact rfl)
  exact ⟨.inr rfl, rfl, _, rfl, rfl, rfl⟩

/-! acts: the law's copies. -/
theorem loop19 (l : List Act) (hl : l.length < 1000000) {Q : Ex → StW → Prop} : ∀ (r i : Nat) (o a3 : AV) (lo : List (Nat × AV)) (K : Heap) (wr : List Nat), i + r = l.length → OutL actC 3 44 K o (l.take i) [] →
    (∀ o a3 lo K wr, OutL actC 3 44 K o l [] → Q (.exit 0) ⟨⟨[.vs (acts l) l.length cap, .nilsl, o, a3, .vs (acts l) l.length cap, .int .i64 l.length, .int .i64 l.length], lo, K, []⟩, wr⟩) →
    W M (.loop b19_0) ⟨⟨[.vs (acts l) l.length cap, .nilsl, o, a3, .vs (acts l) l.length cap, .int .i64 l.length, .int .i64 i], lo, K, []⟩, wr⟩ Q := by
  intro r
  induction r with
  | zero =>
    intro i o a3 lo K wr hi ho hQ
    obtain rfl : i = l.length := by omega
    rw [List.take_length] at ho
    refine W.loop ?_
    unfold b19_0
    repeat' first | apply W.seq | apply SQn | apply W.region | apply WO.nil | apply W.block | apply W.ret | apply W.exit | apply W.skip | apply SQr | apply SQe | apply BQn | apply BQr | apply BQe | (apply BQo; exact rfl) | apply LQe | apply LQr | apply LIe | apply LIr | (apply W.condT; exact rfl) | (apply W.condF; exact rfl) | (apply W.cond; exact rfl; all_goals intro _) | (apply WO.lss; exact rfl; exact rfl; all_goals first | (intro _; exfalso; omega) | intro _) | (apply WO.add; exact rfl; exact rfl; omega) | (apply WO.cat; exact rfl; exact rfl; first | omega | (simp only [List.length_append, List.length_cons, List.length_nil]; omega) | (simp; omega)) | (apply WO.iav; exact rfl; exact rfl; omega) | (apply WO.ias; exact rfl; exact rfl; omega) | (apply WO.lda; exact rfl; exact fun _ => rfl; (first | omega | (simp only [List.length_set]; omega) | (simp; omega)); decide; exact rfl; case ia => infer_instance) | (apply WO.lsa; exact rfl; (first | exact rfl | assumption | exact at_new | (apply at_old; assumption) | (apply at_put; first | assumption | (simp only [put_length]; assumption))); exact fun _ => rfl; (first | omega | (simp only [List.length_set]; omega) | (simp; omega)); decide; exact rfl; case ia => infer_instance) | (apply WO.sta; exact rfl; exact rfl; (first | exact rfl | assumption | exact at_new | (apply at_old; assumption) | (apply at_put; first | assumption | (simp only [put_length]; assumption))); exact fun _ => rfl; (first | omega | (simp only [List.length_set]; omega) | (simp; omega)); exact ⟨rfl, by decide, rfl⟩; exact rfl; case ia => infer_instance) | (apply WO.hlv; exact rfl; exact rfl; exact rfl) | (apply WO.hpv; exact rfl; exact rfl; exact rfl) | (apply WO.hnv; exact rfl; exact rfl; exact rfl) | (apply WO.pl; exact rfl; exact rfl) | (apply WO.pp; exact rfl; exact rfl)
    exact hQ _ _ _ _ _ ho
  | succ r ih =>
    intro i o a3 lo K wr hi ho hQ
    have hil : i < l.length := by omega
    have hroom : ((l.take i).length + 1) * 40 ≤ roomLimit := by rw [List.length_take]; unfold roomLimit; omega
    have e : l.take (i + 1) = l.take i ++ [l[((i : Int)).toNat]!] := by
      rw [Int.toNat_natCast, List.take_succ_eq_append_getElem hil, getElem!_pos l i hil]
    have ho1 : ∀ x, OutL actC 3 44 (K ++ [x]) o (l.take i) [] := fun x => by
      rcases ho with ⟨h1, h2⟩ | ⟨c, h1, h2, h3, h4⟩
      · exact .inl ⟨h1, h2⟩
      · exact .inr ⟨c, h1, h2, h3, at_old h4⟩
    refine W.loop ?_
    unfold b19_0
    repeat' first | apply W.seq | apply SQn | apply W.region | apply WO.nil | apply W.block | apply W.ret | apply W.exit | apply W.skip | apply SQr | apply SQe | apply BQn | apply BQr | apply BQe | (apply BQo; exact rfl) | apply LQe | apply LQr | apply LIe | apply LIr | (apply W.condT; exact rfl) | (apply W.condF; exact rfl) | (apply W.cond; exact rfl; all_goals intro _) | (apply WO.lss; exact rfl; exact rfl; all_goals first | (intro _; exfalso; omega) | intro _) | (apply WO.add; exact rfl; exact rfl; omega) | (apply WO.cat; exact rfl; exact rfl; first | omega | (simp only [List.length_append, List.length_cons, List.length_nil]; omega) | (simp; omega)) | (apply WO.stK; exact rfl; exact rfl; exact ⟨rfl, Nat.le_refl 3, rfl⟩; exact rfl) | (apply WO.ldK; exact rfl; exact at_new; exact rfl) | (refine OutL.push (f := actC) (m := l[((i : Int)).toNat]!) (fun _ => rfl) (fun _ => rfl) (by decide) (ho1 _) (fun _ h => nomatch h) rfl rfl hroom (fun H w' o' ho' _ _ => ?_)) | (apply WO.iav; exact rfl; exact rfl; omega) | (apply WO.ias; exact rfl; exact rfl; omega) | (apply WO.lda; exact rfl; exact fun _ => rfl; (first | omega | (simp only [List.length_set]; omega) | (simp; omega)); decide; exact rfl; case ia => infer_instance) | (apply WO.lsa; exact rfl; (first | exact rfl | assumption | exact at_new | (apply at_old; assumption) | (apply at_put; first | assumption | (simp only [put_length]; assumption))); exact fun _ => rfl; (first | omega | (simp only [List.length_set]; omega) | (simp; omega)); decide; exact rfl; case ia => infer_instance) | (apply WO.sta; exact rfl; exact rfl; (first | exact rfl | assumption | exact at_new | (apply at_old; assumption) | (apply at_put; first | assumption | (simp only [put_length]; assumption))); exact fun _ => rfl; (first | omega | (simp only [List.length_set]; omega) | (simp; omega)); exact ⟨rfl, by decide, rfl⟩; exact rfl; case ia => infer_instance) | (apply WO.hlv; exact rfl; exact rfl; exact rfl) | (apply WO.hpv; exact rfl; exact rfl; exact rfl) | (apply WO.hnv; exact rfl; exact rfl; exact rfl) | (apply WO.pl; exact rfl; exact rfl) | (apply WO.pp; exact rfl; exact rfl)
    refine LQn ?_
    exact ih (i + 1) _ _ _ _ _ (by omega) (e ▸ ho') hQ
theorem w19 (hft : M.FT = FT) (l : List Act) (hl : l.length < 1000000) : ∃ v hh, OutL actC 3 44 hh v l [] ∧ Run M 19 [.vs (acts l) l.length cap] [] ⟨v, hh, []⟩ := by
  refine run_ofE (P := fun v hh => OutL actC 3 44 hh v l []) (by rw [hft]; exact ft19) (by simp) ?_
  unfold b19
  simp only [List.map_cons, List.map_nil, List.getElem?_cons_zero, List.getElem?_cons_succ, List.getElem?_nil, Option.getD_some, Option.getD_none]
  repeat' first | apply W.seq | apply SQn | apply W.region | apply WO.nil | apply W.block | apply W.ret | apply W.exit | apply W.skip | apply SQr | apply SQe | apply BQn | apply BQr | apply BQe | (apply BQo; exact rfl) | apply LQe | apply LQr | apply LIe | apply LIr | (apply W.condT; exact rfl) | (apply W.condF; exact rfl) | (apply W.cond; exact rfl; all_goals intro _) | (apply WO.pl; exact rfl; exact rfl) | (apply WO.pp; exact rfl; exact rfl)
  refine loop19 l hl l.length 0 _ _ _ _ _ (by omega) (.inl ⟨rfl, rfl⟩) (fun o a3 lo K wr ho => ?_)
  repeat' first | apply W.seq | apply SQn | apply W.region | apply WO.nil | apply W.block | apply W.ret | apply W.exit | apply W.skip | apply SQr | apply SQe | apply BQn | apply BQr | apply BQe | (apply BQo; exact rfl) | apply LQe | apply LQr | apply LIe | apply LIr | (apply W.condT; exact rfl) | (apply W.condF; exact rfl) | (apply W.cond; exact rfl; all_goals intro _) | (apply WO.pl; exact rfl; exact rfl) | (apply WO.pp; exact rfl; exact rfl)
  exact ⟨.inr rfl, rfl, _, rfl, ho.fin⟩

/-! Corrected. -/
structure C18 (M : Mach) : Prop extends CF M where
  c69 : ∀ (l : List Act) cap hts h, (∀ a ∈ l, a.who.length < 1000000) → l.length < 1000000 → M.ext 69 [.vs (acts l) l.length cap, .bool hts] h = some ⟨.int .i64 (actsE l hts), h, []⟩
  c16 : ∀ (a : Act) hts h, a.who.length < 1000000 → M.ext 16 [.agg (actC a), .bool hts] h = some ⟨.int .i64 (actE a hts), h, []⟩
  c70 : ∀ (l : List Act) cap h, l ≠ [] → l.length < 1000000 → M.ext 70 [.vs (acts l) l.length cap] h = some ⟨.sl h.length 0 l.length 3 none, h ++ [some (.cells (acts l) 44)], []⟩
set_option maxHeartbeats 1000000 in
theorem w18e (C : C18 M) (l : List Act) (n : Int) (a : Act) (hts : Bool) (hL : ∀ a ∈ l, a.who.length < 1000000) (hl : l.length < 1000000) (ha : a.who.length < 1000000) (hE : corrE l n a hts ≠ 0) :
    Run M 18 [.vs (acts l) l.length cap, .int .i64 n, .agg (actC a), .bool hts] [] ⟨.tup [.nilsl, .int .i64 (corrE l n a hts)], [], []⟩ := by
  have q69 := fun h => C.c69 l cap hts h hL hl
  have q16 := fun h => C.c16 a hts h ha
  have q64 := C.c64
  have q61 : ∀ T : Bool, corrE l n a hts = firstNZ [actsE l hts, actE a hts, if T then 10 else 0] → M.ext 61 [.sl 1 0 3 1 (some 3)] [some (.cells (actC a) 44), some (.cells [.int .i64 (actsE l hts), .int .i64 (actE a hts), .int .i64 (if T then 10 else 0)] 30)] = some ⟨.int .i64 (corrE l n a hts), [some (.cells (actC a) 44), some (.cells [.int .i64 (actsE l hts), .int .i64 (actE a hts), .int .i64 (if T then 10 else 0)] 30)], []⟩ := fun T hT => by
    rw [hT]; exact C.q3 [some (.cells (actC a) 44)] _ _ _
  have e : corrE l n a hts = firstNZ [actsE l hts, actE a hts, if n < 1 ∨ (l.length : Int) < n then 10 else 0] := by
    unfold corrE firstNZ
    by_cases h1 : actsE l hts = 0 <;> by_cases h2 : actE a hts = 0 <;> by_cases h3 : n < 1 ∨ (l.length : Int) < n <;> simp [h1, h2, h3, firstNZ]
  generalize corrE l n a hts = E at *
  generalize actsE l hts = E1 at *
  generalize actE a hts = E2 at *
  have qT := q61 true
  have qF := q61 false
  refine run_of_W (by rw [C.ft]; exact ft18) (by simp) ?_
  unfold b18
  simp only [List.map_cons, List.map_nil, List.getElem?_cons_zero, List.getElem?_cons_succ, List.getElem?_nil, Option.getD_some, Option.getD_none]
  by_cases h1 : n < 1
  · rw [if_pos (.inl h1)] at e
    repeat' first | apply W.seq | apply SQn | apply W.region | apply WO.nil | apply W.block | apply W.ret | apply W.exit | apply W.skip | apply SQr | apply SQe | apply BQn | apply BQr | apply BQe | (apply BQo; exact rfl) | apply LQe | apply LQr | apply LIe | apply LIr | (apply W.drawro; exact rfl) | apply W.draw | apply WD.nil | (apply WD.gT; exact rfl) | (apply WD.gF; exact rfl) | (apply WD.sT; exact rfl) | (apply WD.sF; exact rfl) | (apply WD.sU; exact rfl) | (apply WD.pure1; exact rfl) | (apply WD.load1; exact rfl; exact rfl; exact rfl) | (apply WD.store1; exact rfl; exact rfl; exact rfl) | (apply WD.new1; exact rfl) | (apply WD.clb; exact rfl; exact rfl; exact rfl; exact rfl; all_goals first | (intro h; exact absurd h (by decide)) | intro _) | (apply WD.cl0; exact rfl; exact rfl; exact rfl; exact rfl) | (apply WD.cl1; exact rfl; exact rfl; exact rfl; exact rfl) | (apply W.condT; exact rfl) | (apply W.condF; exact rfl) | (apply W.cond; exact rfl; all_goals intro _) | (apply WO.gT; exact rfl) | (apply WO.gF; exact rfl) | (apply WO.sT; exact rfl) | (apply WO.sF; exact rfl) | (apply WO.sU; exact rfl) | (apply WO.lss; exact rfl; exact rfl; all_goals first | (intro _; exfalso; omega) | intro _) | (apply WO.gtr; exact rfl; exact rfl; all_goals first | (intro _; exfalso; omega) | intro _) | (apply WO.neq; exact rfl; exact rfl; all_goals first | (intro _; exfalso; omega) | intro _) | (apply WO.pkT; exact rfl; exact rfl) | (apply WO.pkF; exact rfl; exact rfl) | (apply WO.sub; exact rfl; exact rfl; omega) | (apply WO.cll; exact rfl; exact rfl; first | exact q69 _ | exact q16 _ | exact q64 true _ _ | exact qT e) | (apply WD.cl0; exact rfl; exact rfl; exact rfl; first | exact q69 _ | exact q16 _ | exact q64 true _ _ | exact qT e) | (apply WO.iav; exact rfl; exact rfl; omega) | (apply WO.ias; exact rfl; exact rfl; omega) | (apply WO.lda; exact rfl; exact fun _ => rfl; (first | omega | (simp only [List.length_set]; omega) | (simp; omega)); decide; exact rfl; case ia => infer_instance) | (apply WO.lsa; exact rfl; (first | exact rfl | assumption | exact at_new | (apply at_old; assumption) | (apply at_put; first | assumption | (simp only [put_length]; assumption))); exact fun _ => rfl; (first | omega | (simp only [List.length_set]; omega) | (simp; omega)); decide; exact rfl; case ia => infer_instance) | (apply WO.sta; exact rfl; exact rfl; (first | exact rfl | assumption | exact at_new | (apply at_old; assumption) | (apply at_put; first | assumption | (simp only [put_length]; assumption))); exact fun _ => rfl; (first | omega | (simp only [List.length_set]; omega) | (simp; omega)); exact ⟨rfl, by decide, rfl⟩; exact rfl; case ia => infer_instance) | (apply WO.sneq; exact rfl; exact rfl; all_goals first | (intro h; exact absurd h (by decide)) | (intro h; exact absurd rfl h) | (intro h; contradiction) | intro _) | (apply WO.clb; exact rfl; exact rfl; exact rfl; all_goals first | (intro h; exact absurd h (by decide)) | intro _) | (apply WO.cll; exact rfl; exact rfl; exact rfl) | (apply WO.hlv; exact rfl; exact rfl; exact rfl) | (apply WO.hpv; exact rfl; exact rfl; exact rfl) | (apply WO.hnv; exact rfl; exact rfl; exact rfl) | (apply WO.pl; exact rfl; exact rfl) | (apply WO.pp; exact rfl; exact rfl)
    all_goals exact ⟨.inr rfl, rfl, _, rfl, rfl, rfl⟩
  · by_cases h2 : (l.length : Int) < n
    · rw [if_pos (.inr h2)] at e
      repeat' first | apply W.seq | apply SQn | apply W.region | apply WO.nil | apply W.block | apply W.ret | apply W.exit | apply W.skip | apply SQr | apply SQe | apply BQn | apply BQr | apply BQe | (apply BQo; exact rfl) | apply LQe | apply LQr | apply LIe | apply LIr | (apply W.drawro; exact rfl) | apply W.draw | apply WD.nil | (apply WD.gT; exact rfl) | (apply WD.gF; exact rfl) | (apply WD.sT; exact rfl) | (apply WD.sF; exact rfl) | (apply WD.sU; exact rfl) | (apply WD.pure1; exact rfl) | (apply WD.load1; exact rfl; exact rfl; exact rfl) | (apply WD.store1; exact rfl; exact rfl; exact rfl) | (apply WD.new1; exact rfl) | (apply WD.clb; exact rfl; exact rfl; exact rfl; exact rfl; all_goals first | (intro h; exact absurd h (by decide)) | intro _) | (apply WD.cl0; exact rfl; exact rfl; exact rfl; exact rfl) | (apply WD.cl1; exact rfl; exact rfl; exact rfl; exact rfl) | (apply W.condT; exact rfl) | (apply W.condF; exact rfl) | (apply W.cond; exact rfl; all_goals intro _) | (apply WO.gT; exact rfl) | (apply WO.gF; exact rfl) | (apply WO.sT; exact rfl) | (apply WO.sF; exact rfl) | (apply WO.sU; exact rfl) | (apply WO.lss; exact rfl; exact rfl; all_goals first | (intro _; exfalso; omega) | intro _) | (apply WO.gtr; exact rfl; exact rfl; all_goals first | (intro _; exfalso; omega) | intro _) | (apply WO.neq; exact rfl; exact rfl; all_goals first | (intro _; exfalso; omega) | intro _) | (apply WO.pkT; exact rfl; exact rfl) | (apply WO.pkF; exact rfl; exact rfl) | (apply WO.sub; exact rfl; exact rfl; omega) | (apply WO.cll; exact rfl; exact rfl; first | exact q69 _ | exact q16 _ | exact q64 true _ _ | exact qT e) | (apply WD.cl0; exact rfl; exact rfl; exact rfl; first | exact q69 _ | exact q16 _ | exact q64 true _ _ | exact qT e) | (apply WO.iav; exact rfl; exact rfl; omega) | (apply WO.ias; exact rfl; exact rfl; omega) | (apply WO.lda; exact rfl; exact fun _ => rfl; (first | omega | (simp only [List.length_set]; omega) | (simp; omega)); decide; exact rfl; case ia => infer_instance) | (apply WO.lsa; exact rfl; (first | exact rfl | assumption | exact at_new | (apply at_old; assumption) | (apply at_put; first | assumption | (simp only [put_length]; assumption))); exact fun _ => rfl; (first | omega | (simp only [List.length_set]; omega) | (simp; omega)); decide; exact rfl; case ia => infer_instance) | (apply WO.sta; exact rfl; exact rfl; (first | exact rfl | assumption | exact at_new | (apply at_old; assumption) | (apply at_put; first | assumption | (simp only [put_length]; assumption))); exact fun _ => rfl; (first | omega | (simp only [List.length_set]; omega) | (simp; omega)); exact ⟨rfl, by decide, rfl⟩; exact rfl; case ia => infer_instance) | (apply WO.sneq; exact rfl; exact rfl; all_goals first | (intro h; exact absurd h (by decide)) | (intro h; exact absurd rfl h) | (intro h; contradiction) | intro _) | (apply WO.clb; exact rfl; exact rfl; exact rfl; all_goals first | (intro h; exact absurd h (by decide)) | intro _) | (apply WO.cll; exact rfl; exact rfl; exact rfl) | (apply WO.hlv; exact rfl; exact rfl; exact rfl) | (apply WO.hpv; exact rfl; exact rfl; exact rfl) | (apply WO.hnv; exact rfl; exact rfl; exact rfl) | (apply WO.pl; exact rfl; exact rfl) | (apply WO.pp; exact rfl; exact rfl)
      all_goals exact ⟨.inr rfl, rfl, _, rfl, rfl, rfl⟩
    · rw [if_neg (by omega)] at e
      repeat' first | apply W.seq | apply SQn | apply W.region | apply WO.nil | apply W.block | apply W.ret | apply W.exit | apply W.skip | apply SQr | apply SQe | apply BQn | apply BQr | apply BQe | (apply BQo; exact rfl) | apply LQe | apply LQr | apply LIe | apply LIr | (apply W.drawro; exact rfl) | apply W.draw | apply WD.nil | (apply WD.gT; exact rfl) | (apply WD.gF; exact rfl) | (apply WD.sT; exact rfl) | (apply WD.sF; exact rfl) | (apply WD.sU; exact rfl) | (apply WD.pure1; exact rfl) | (apply WD.load1; exact rfl; exact rfl; exact rfl) | (apply WD.store1; exact rfl; exact rfl; exact rfl) | (apply WD.new1; exact rfl) | (apply WD.clb; exact rfl; exact rfl; exact rfl; exact rfl; all_goals first | (intro h; exact absurd h (by decide)) | intro _) | (apply WD.cl0; exact rfl; exact rfl; exact rfl; exact rfl) | (apply WD.cl1; exact rfl; exact rfl; exact rfl; exact rfl) | (apply W.condT; exact rfl) | (apply W.condF; exact rfl) | (apply W.cond; exact rfl; all_goals intro _) | (apply WO.gT; exact rfl) | (apply WO.gF; exact rfl) | (apply WO.sT; exact rfl) | (apply WO.sF; exact rfl) | (apply WO.sU; exact rfl) | (apply WO.lss; exact rfl; exact rfl; all_goals first | (intro _; exfalso; omega) | intro _) | (apply WO.gtr; exact rfl; exact rfl; all_goals first | (intro _; exfalso; omega) | intro _) | (apply WO.neq; exact rfl; exact rfl; all_goals first | (intro _; exfalso; omega) | intro _) | (apply WO.pkT; exact rfl; exact rfl) | (apply WO.pkF; exact rfl; exact rfl) | (apply WO.sub; exact rfl; exact rfl; omega) | (apply WO.cll; exact rfl; exact rfl; first | exact q69 _ | exact q16 _ | exact q64 false _ _ | exact qF e) | (apply WD.cl0; exact rfl; exact rfl; exact rfl; first | exact q69 _ | exact q16 _ | exact q64 false _ _ | exact qF e) | (apply WO.iav; exact rfl; exact rfl; omega) | (apply WO.ias; exact rfl; exact rfl; omega) | (apply WO.lda; exact rfl; exact fun _ => rfl; (first | omega | (simp only [List.length_set]; omega) | (simp; omega)); decide; exact rfl; case ia => infer_instance) | (apply WO.lsa; exact rfl; (first | exact rfl | assumption | exact at_new | (apply at_old; assumption) | (apply at_put; first | assumption | (simp only [put_length]; assumption))); exact fun _ => rfl; (first | omega | (simp only [List.length_set]; omega) | (simp; omega)); decide; exact rfl; case ia => infer_instance) | (apply WO.sta; exact rfl; exact rfl; (first | exact rfl | assumption | exact at_new | (apply at_old; assumption) | (apply at_put; first | assumption | (simp only [put_length]; assumption))); exact fun _ => rfl; (first | omega | (simp only [List.length_set]; omega) | (simp; omega)); exact ⟨rfl, by decide, rfl⟩; exact rfl; case ia => infer_instance) | (apply WO.sneq; exact rfl; exact rfl; all_goals first | (intro h; exact absurd h (by decide)) | (intro h; exact absurd rfl h) | (intro h; contradiction) | intro _) | (apply WO.clb; exact rfl; exact rfl; exact rfl; all_goals first | (intro h; exact absurd h (by decide)) | intro _) | (apply WO.cll; exact rfl; exact rfl; exact rfl) | (apply WO.hlv; exact rfl; exact rfl; exact rfl) | (apply WO.hpv; exact rfl; exact rfl; exact rfl) | (apply WO.hnv; exact rfl; exact rfl; exact rfl) | (apply WO.pl; exact rfl; exact rfl) | (apply WO.pp; exact rfl; exact rfl)
      all_goals exact ⟨.inr rfl, rfl, _, rfl, rfl, rfl⟩
set_option maxHeartbeats 1000000 in
theorem w18 (C : C18 M) (l : List Act) (n : Int) (a : Act) (hts : Bool) (hL : ∀ a ∈ l, a.who.length < 1000000) (hl : l.length < 1000000) (ha : a.who.length < 1000000) (hE : corrE l n a hts = 0) :
    Run M 18 [.vs (acts l) l.length cap, .int .i64 n, .agg (actC a), .bool hts] [] ⟨.tup [.sl 2 0 l.length 3 none, .int .i64 0], [some (.cells (actC a) 44), some (.cells [.int .i64 0, .int .i64 0, .int .i64 0] 30), some (.cells (acts (l.set (n - 1).toNat a)) 44)], []⟩ := by
  have q69 := fun h => C.c69 l cap hts h hL hl
  have q16 := fun h => C.c16 a hts h ha
  have q64 := C.c64
  have hn : actsE l hts = 0 ∧ actE a hts = 0 ∧ 1 ≤ n ∧ n ≤ l.length := by
    unfold corrE at hE
    split at hE
    · rename_i h; exact absurd hE h
    · split at hE
      · rename_i h; exact absurd hE h
      · split at hE
        · cases hE
        · rename_i h1 h2 h3
          exact ⟨Decidable.not_not.1 h1, Decidable.not_not.1 h2, by omega, by omega⟩
  obtain ⟨e1, e2, n1, n2⟩ := hn
  rw [e1] at q69
  rw [e2] at q16
  have h0 : l ≠ [] := fun h => by rw [h] at n2; simp at n2; omega
  have q70 := fun h => C.c70 l cap h h0 hl
  have q61 : M.ext 61 [.sl 1 0 3 1 (some 3)] [some (.cells (actC a) 44), some (.cells [.int .i64 0, .int .i64 0, .int .i64 0] 30)] = some ⟨.int .i64 0, [some (.cells (actC a) 44), some (.cells [.int .i64 0, .int .i64 0, .int .i64 0] 30)], []⟩ := C.q3 [some (.cells (actC a) 44)] 0 0 0
  have q64' : ∀ e h, M.ext 64 [.bool false, .int .i64 e] h = some ⟨.int .i64 0, h, []⟩ := fun e h => q64 false e h
  refine run_of_W (by rw [C.ft]; exact ft18) (by simp) ?_
  unfold b18
  simp only [List.map_cons, List.map_nil, List.getElem?_cons_zero, List.getElem?_cons_succ, List.getElem?_nil, Option.getD_some, Option.getD_none]
  repeat' first | apply W.seq | apply SQn | apply W.region | apply WO.nil | apply W.block | apply W.ret | apply W.exit | apply W.skip | apply SQr | apply SQe | apply BQn | apply BQr | apply BQe | (apply BQo; exact rfl) | apply LQe | apply LQr | apply LIe | apply LIr | (apply W.drawro; exact rfl) | apply W.draw | apply WD.nil | (apply WD.gT; exact rfl) | (apply WD.gF; exact rfl) | (apply WD.sT; exact rfl) | (apply WD.sF; exact rfl) | (apply WD.sU; exact rfl) | (apply WD.pure1; exact rfl) | (apply WD.load1; exact rfl; exact rfl; exact rfl) | (apply WD.store1; exact rfl; exact rfl; exact rfl) | (apply WD.new1; exact rfl) | (apply WD.clb; exact rfl; exact rfl; exact rfl; exact rfl; all_goals first | (intro h; exact absurd h (by decide)) | intro _) | (apply WD.cl0; exact rfl; exact rfl; exact rfl; exact rfl) | (apply WD.cl1; exact rfl; exact rfl; exact rfl; exact rfl) | (apply W.condT; exact rfl) | (apply W.condF; exact rfl) | (apply W.cond; exact rfl; all_goals intro _) | (apply WO.gT; exact rfl) | (apply WO.gF; exact rfl) | (apply WO.sT; exact rfl) | (apply WO.sF; exact rfl) | (apply WO.sU; exact rfl) | (apply WO.lss; exact rfl; exact rfl; all_goals first | (intro _; exfalso; omega) | intro _) | (apply WO.gtr; exact rfl; exact rfl; all_goals first | (intro _; exfalso; omega) | intro _) | (apply WO.neq; exact rfl; exact rfl; all_goals first | (intro _; exfalso; omega) | intro _) | (apply WO.pkT; exact rfl; exact rfl) | (apply WO.pkF; exact rfl; exact rfl) | (apply WO.sub; exact rfl; exact rfl; omega) | (apply WO.cll; exact rfl; exact rfl; first | exact q69 _ | exact q16 _ | exact q64' _ _ | exact q61) | (apply WD.cl0; exact rfl; exact rfl; exact rfl; first | exact q69 _ | exact q16 _ | exact q64' _ _ | exact q61) | (apply WO.cll; exact rfl; exact rfl; first | exact q70 _) | (apply WO.iav; exact rfl; exact rfl; omega) | (apply WO.ias; exact rfl; exact rfl; omega) | (apply WO.lda; exact rfl; exact fun _ => rfl; (first | omega | (simp only [List.length_set]; omega) | (simp; omega)); decide; exact rfl; case ia => infer_instance) | (apply WO.lsa; exact rfl; (first | exact rfl | assumption | exact at_new | (apply at_old; assumption) | (apply at_put; first | assumption | (simp only [put_length]; assumption))); exact fun _ => rfl; (first | omega | (simp only [List.length_set]; omega) | (simp; omega)); decide; exact rfl; case ia => infer_instance) | (apply WO.sta; exact rfl; exact rfl; (first | exact rfl | assumption | exact at_new | (apply at_old; assumption) | (apply at_put; first | assumption | (simp only [put_length]; assumption))); exact fun _ => rfl; (first | omega | (simp only [List.length_set]; omega) | (simp; omega)); exact ⟨rfl, by decide, rfl⟩; exact rfl; case ia => infer_instance) | (apply WO.sneq; exact rfl; exact rfl; all_goals first | (intro h; exact absurd h (by decide)) | (intro h; exact absurd rfl h) | (intro h; contradiction) | intro _) | (apply WO.clb; exact rfl; exact rfl; exact rfl; all_goals first | (intro h; exact absurd h (by decide)) | intro _) | (apply WO.cll; exact rfl; exact rfl; exact rfl) | (apply WO.hlv; exact rfl; exact rfl; exact rfl) | (apply WO.hpv; exact rfl; exact rfl; exact rfl) | (apply WO.hnv; exact rfl; exact rfl; exact rfl) | (apply WO.pl; exact rfl; exact rfl) | (apply WO.pp; exact rfl; exact rfl)
  exact ⟨.inr rfl, rfl, _, rfl, rfl, rfl⟩

/-! ShortActs. -/
theorem loop15 (l : List Act) (n : Int) (hl : l.length < 1000000) {Q : Ex → StW → Prop} : ∀ (r i : Nat) (lo : List (Nat × AV)) (wr : List Nat), i + r = l.length →
    ((l.drop i).all (fun a => decide (a.who.length ≤ 40) && decide (a.kind.length ≤ 40)) = true → ∀ lo, Q (.exit 0) ⟨⟨[.vs (acts l) l.length cap, .int .i64 n, .bool false, .int .i64 l.length], lo, [], []⟩, wr⟩) →
    ((l.drop i).all (fun a => decide (a.who.length ≤ 40) && decide (a.kind.length ≤ 40)) = false → ∀ a3 lo, Q .ret ⟨⟨[.vs (acts l) l.length cap, .int .i64 n, .bool false, a3], lo, [], []⟩, wr⟩) →
    W M (.loop b15_0) ⟨⟨[.vs (acts l) l.length cap, .int .i64 n, .bool false, .int .i64 i], lo, [], []⟩, wr⟩ Q := by
  intro r
  induction r with
  | zero =>
    intro i lo wr hi h1 h2
    obtain rfl : i = l.length := by omega
    refine W.loop ?_
    unfold b15_0
    repeat' first | apply W.seq | apply SQn | apply W.region | apply WO.nil | apply W.block | apply W.ret | apply W.exit | apply W.skip | apply SQr | apply SQe | apply BQn | apply BQr | apply BQe | (apply BQo; exact rfl) | apply LQe | apply LQr | apply LIe | apply LIr | (apply W.condT; exact rfl) | (apply W.condF; exact rfl) | (apply W.cond; exact rfl; all_goals intro _) | (apply WO.gT; exact rfl) | (apply WO.gF; exact rfl) | (apply WO.sT; exact rfl) | (apply WO.sF; exact rfl) | (apply WO.sU; exact rfl) | (apply WO.lss; exact rfl; exact rfl; all_goals first | (intro _; exfalso; omega) | intro _) | (apply WO.gtr; exact rfl; exact rfl; all_goals first | (intro _; exfalso; omega) | intro _) | (apply WO.pkT; exact rfl; exact rfl) | (apply WO.pkF; exact rfl; exact rfl) | (apply WO.add; exact rfl; exact rfl; omega) | (apply WO.cat; exact rfl; exact rfl; first | omega | (simp only [List.length_append, List.length_cons, List.length_nil]; omega) | (simp; omega)) | (apply WO.iav; exact rfl; exact rfl; omega) | (apply WO.ias; exact rfl; exact rfl; omega) | (apply WO.lda; exact rfl; exact fun _ => rfl; (first | omega | (simp only [List.length_set]; omega) | (simp; omega)); decide; exact rfl; case ia => infer_instance) | (apply WO.lsa; exact rfl; (first | exact rfl | assumption | exact at_new | (apply at_old; assumption) | (apply at_put; first | assumption | (simp only [put_length]; assumption))); exact fun _ => rfl; (first | omega | (simp only [List.length_set]; omega) | (simp; omega)); decide; exact rfl; case ia => infer_instance) | (apply WO.ldf; exact rfl; exact fun _ => rfl; (first | omega | (simp only [List.length_set]; omega) | (simp; omega)); decide; exact rfl; case ia => infer_instance) | (apply WO.lsf; exact rfl; (first | exact rfl | assumption | exact at_new | (apply at_old; assumption) | (apply at_put; first | assumption | (simp only [put_length]; assumption))); exact fun _ => rfl; (first | omega | (simp only [List.length_set]; omega) | (simp; omega)); decide; exact rfl; case ia => infer_instance) | (apply WO.hlv; exact rfl; exact rfl; exact rfl) | (apply WO.hpv; exact rfl; exact rfl; exact rfl) | (apply WO.hnv; exact rfl; exact rfl; exact rfl) | (apply WO.pl; exact rfl; exact rfl) | (apply WO.pp; exact rfl; exact rfl)
    exact h1 (by rw [List.drop_length]; rfl) _
  | succ r ih =>
    intro i lo wr hi h1 h2
    have hil : i < l.length := by omega
    rw [List.drop_eq_getElem_cons hil, ← getElem!_pos l i hil, List.all_cons] at h1 h2
    refine W.loop ?_
    unfold b15_0
    by_cases ha : (l[i]!).who.length ≤ 40
    · have ha' : (l[((i : Int)).toNat]!).who.length ≤ 40 := ha
      rw [decide_eq_true ha] at h1 h2
      by_cases hb : (l[i]!).kind.length ≤ 40
      · have hb' : (l[((i : Int)).toNat]!).kind.length ≤ 40 := hb
        rw [decide_eq_true hb] at h1 h2
        repeat' first | apply W.seq | apply SQn | apply W.region | apply WO.nil | apply W.block | apply W.ret | apply W.exit | apply W.skip | apply SQr | apply SQe | apply BQn | apply BQr | apply BQe | (apply BQo; exact rfl) | apply LQe | apply LQr | apply LIe | apply LIr | (apply W.condT; exact rfl) | (apply W.condF; exact rfl) | (apply W.cond; exact rfl; all_goals intro _) | (apply WO.gT; exact rfl) | (apply WO.gF; exact rfl) | (apply WO.sT; exact rfl) | (apply WO.sF; exact rfl) | (apply WO.sU; exact rfl) | (apply WO.lss; exact rfl; exact rfl; all_goals first | (intro _; exfalso; omega) | intro _) | (apply WO.gtr; exact rfl; exact rfl; all_goals first | (intro _; exfalso; omega) | intro _) | (apply WO.pkT; exact rfl; exact rfl) | (apply WO.pkF; exact rfl; exact rfl) | (apply WO.add; exact rfl; exact rfl; omega) | (apply WO.cat; exact rfl; exact rfl; first | omega | (simp only [List.length_append, List.length_cons, List.length_nil]; omega) | (simp; omega)) | (apply WO.iav; exact rfl; exact rfl; omega) | (apply WO.ias; exact rfl; exact rfl; omega) | (apply WO.lda; exact rfl; exact fun _ => rfl; (first | omega | (simp only [List.length_set]; omega) | (simp; omega)); decide; exact rfl; case ia => infer_instance) | (apply WO.lsa; exact rfl; (first | exact rfl | assumption | exact at_new | (apply at_old; assumption) | (apply at_put; first | assumption | (simp only [put_length]; assumption))); exact fun _ => rfl; (first | omega | (simp only [List.length_set]; omega) | (simp; omega)); decide; exact rfl; case ia => infer_instance) | (apply WO.ldf; exact rfl; exact fun _ => rfl; (first | omega | (simp only [List.length_set]; omega) | (simp; omega)); decide; exact rfl; case ia => infer_instance) | (apply WO.lsf; exact rfl; (first | exact rfl | assumption | exact at_new | (apply at_old; assumption) | (apply at_put; first | assumption | (simp only [put_length]; assumption))); exact fun _ => rfl; (first | omega | (simp only [List.length_set]; omega) | (simp; omega)); decide; exact rfl; case ia => infer_instance) | (apply WO.hlv; exact rfl; exact rfl; exact rfl) | (apply WO.hpv; exact rfl; exact rfl; exact rfl) | (apply WO.hnv; exact rfl; exact rfl; exact rfl) | (apply WO.pl; exact rfl; exact rfl) | (apply WO.pp; exact rfl; exact rfl)
        refine LQn ?_
        exact ih (i + 1) _ _ (by omega) h1 h2
      · have hb' : ¬ (l[((i : Int)).toNat]!).kind.length ≤ 40 := hb
        rw [decide_eq_false hb] at h2
        repeat' first | apply W.seq | apply SQn | apply W.region | apply WO.nil | apply W.block | apply W.ret | apply W.exit | apply W.skip | apply SQr | apply SQe | apply BQn | apply BQr | apply BQe | (apply BQo; exact rfl) | apply LQe | apply LQr | apply LIe | apply LIr | (apply W.condT; exact rfl) | (apply W.condF; exact rfl) | (apply W.cond; exact rfl; all_goals intro _) | (apply WO.gT; exact rfl) | (apply WO.gF; exact rfl) | (apply WO.sT; exact rfl) | (apply WO.sF; exact rfl) | (apply WO.sU; exact rfl) | (apply WO.lss; exact rfl; exact rfl; all_goals first | (intro _; exfalso; omega) | intro _) | (apply WO.gtr; exact rfl; exact rfl; all_goals first | (intro _; exfalso; omega) | intro _) | (apply WO.pkT; exact rfl; exact rfl) | (apply WO.pkF; exact rfl; exact rfl) | (apply WO.add; exact rfl; exact rfl; omega) | (apply WO.cat; exact rfl; exact rfl; first | omega | (simp only [List.length_append, List.length_cons, List.length_nil]; omega) | (simp; omega)) | (apply WO.iav; exact rfl; exact rfl; omega) | (apply WO.ias; exact rfl; exact rfl; omega) | (apply WO.lda; exact rfl; exact fun _ => rfl; (first | omega | (simp only [List.length_set]; omega) | (simp; omega)); decide; exact rfl; case ia => infer_instance) | (apply WO.lsa; exact rfl; (first | exact rfl | assumption | exact at_new | (apply at_old; assumption) | (apply at_put; first | assumption | (simp only [put_length]; assumption))); exact fun _ => rfl; (first | omega | (simp only [List.length_set]; omega) | (simp; omega)); decide; exact rfl; case ia => infer_instance) | (apply WO.ldf; exact rfl; exact fun _ => rfl; (first | omega | (simp only [List.length_set]; omega) | (simp; omega)); decide; exact rfl; case ia => infer_instance) | (apply WO.lsf; exact rfl; (first | exact rfl | assumption | exact at_new | (apply at_old; assumption) | (apply at_put; first | assumption | (simp only [put_length]; assumption))); exact fun _ => rfl; (first | omega | (simp only [List.length_set]; omega) | (simp; omega)); decide; exact rfl; case ia => infer_instance) | (apply WO.hlv; exact rfl; exact rfl; exact rfl) | (apply WO.hpv; exact rfl; exact rfl; exact rfl) | (apply WO.hnv; exact rfl; exact rfl; exact rfl) | (apply WO.pl; exact rfl; exact rfl) | (apply WO.pp; exact rfl; exact rfl)
        exact h2 rfl _ _
    · have ha' : ¬ (l[((i : Int)).toNat]!).who.length ≤ 40 := ha
      rw [decide_eq_false ha] at h2
      repeat' first | apply W.seq | apply SQn | apply W.region | apply WO.nil | apply W.block | apply W.ret | apply W.exit | apply W.skip | apply SQr | apply SQe | apply BQn | apply BQr | apply BQe | (apply BQo; exact rfl) | apply LQe | apply LQr | apply LIe | apply LIr | (apply W.condT; exact rfl) | (apply W.condF; exact rfl) | (apply W.cond; exact rfl; all_goals intro _) | (apply WO.gT; exact rfl) | (apply WO.gF; exact rfl) | (apply WO.sT; exact rfl) | (apply WO.sF; exact rfl) | (apply WO.sU; exact rfl) | (apply WO.lss; exact rfl; exact rfl; all_goals first | (intro _; exfalso; omega) | intro _) | (apply WO.gtr; exact rfl; exact rfl; all_goals first | (intro _; exfalso; omega) | intro _) | (apply WO.pkT; exact rfl; exact rfl) | (apply WO.pkF; exact rfl; exact rfl) | (apply WO.add; exact rfl; exact rfl; omega) | (apply WO.cat; exact rfl; exact rfl; first | omega | (simp only [List.length_append, List.length_cons, List.length_nil]; omega) | (simp; omega)) | (apply WO.iav; exact rfl; exact rfl; omega) | (apply WO.ias; exact rfl; exact rfl; omega) | (apply WO.lda; exact rfl; exact fun _ => rfl; (first | omega | (simp only [List.length_set]; omega) | (simp; omega)); decide; exact rfl; case ia => infer_instance) | (apply WO.lsa; exact rfl; (first | exact rfl | assumption | exact at_new | (apply at_old; assumption) | (apply at_put; first | assumption | (simp only [put_length]; assumption))); exact fun _ => rfl; (first | omega | (simp only [List.length_set]; omega) | (simp; omega)); decide; exact rfl; case ia => infer_instance) | (apply WO.ldf; exact rfl; exact fun _ => rfl; (first | omega | (simp only [List.length_set]; omega) | (simp; omega)); decide; exact rfl; case ia => infer_instance) | (apply WO.lsf; exact rfl; (first | exact rfl | assumption | exact at_new | (apply at_old; assumption) | (apply at_put; first | assumption | (simp only [put_length]; assumption))); exact fun _ => rfl; (first | omega | (simp only [List.length_set]; omega) | (simp; omega)); decide; exact rfl; case ia => infer_instance) | (apply WO.hlv; exact rfl; exact rfl; exact rfl) | (apply WO.hpv; exact rfl; exact rfl; exact rfl) | (apply WO.hnv; exact rfl; exact rfl; exact rfl) | (apply WO.pl; exact rfl; exact rfl) | (apply WO.pp; exact rfl; exact rfl)
      exact h2 rfl _ _
theorem w15 (hft : M.FT = FT) (l : List Act) (n : Nat) : Run M 15 [.vs (acts l) l.length cap, .int .i64 n] [] ⟨.bool (shortA l n), [], []⟩ := by
  refine run_of_W (by rw [hft]; exact ft15) (by simp) ?_
  unfold b15
  simp only [List.map_cons, List.map_nil, List.getElem?_cons_zero, List.getElem?_cons_succ, List.getElem?_nil, Option.getD_some, Option.getD_none]
  by_cases h1 : n < l.length ∧ l.length ≤ 1000
  · have e : shortA l n = false := by
      unfold shortA; rw [decide_eq_true h1.1, decide_eq_true h1.2]; rfl
    obtain ⟨h1, h2⟩ := h1
    rw [e]
    repeat' first | apply W.seq | apply SQn | apply W.region | apply WO.nil | apply W.block | apply W.ret | apply W.exit | apply W.skip | apply SQr | apply SQe | apply BQn | apply BQr | apply BQe | (apply BQo; exact rfl) | apply LQe | apply LQr | apply LIe | apply LIr | (apply W.condT; exact rfl) | (apply W.condF; exact rfl) | (apply W.cond; exact rfl; all_goals intro _) | (apply WO.gT; exact rfl) | (apply WO.gF; exact rfl) | (apply WO.sT; exact rfl) | (apply WO.sF; exact rfl) | (apply WO.sU; exact rfl) | (apply WO.leq; exact rfl; exact rfl; all_goals first | (intro _; exfalso; omega) | intro _) | (apply WO.gtr; exact rfl; exact rfl; all_goals first | (intro _; exfalso; omega) | intro _) | (apply WO.pkT; exact rfl; exact rfl) | (apply WO.pkF; exact rfl; exact rfl) | (apply WO.pl; exact rfl; exact rfl) | (apply WO.pp; exact rfl; exact rfl)
    exact ⟨.inr rfl, rfl, _, rfl, rfl, rfl⟩
  · by_cases h2 : l.length ≤ 1003
    · have e : shortA l n = l.all fun a => decide (a.who.length ≤ 40) && decide (a.kind.length ≤ 40) := by
        unfold shortA
        rw [decide_eq_true h2]
        by_cases a : n < l.length
        · rw [decide_eq_true a, decide_eq_false (fun h => h1 ⟨a, h⟩)]; rfl
        · rw [decide_eq_false a]; rfl
      rw [e]
      repeat' first | apply W.seq | apply SQn | apply W.region | apply WO.nil | apply W.block | apply W.ret | apply W.exit | apply W.skip | apply SQr | apply SQe | apply BQn | apply BQr | apply BQe | (apply BQo; exact rfl) | apply LQe | apply LQr | apply LIe | apply LIr | (apply W.condT; exact rfl) | (apply W.condF; exact rfl) | (apply W.cond; exact rfl; all_goals intro _) | (apply WO.gT; exact rfl) | (apply WO.gF; exact rfl) | (apply WO.sT; exact rfl) | (apply WO.sF; exact rfl) | (apply WO.sU; exact rfl) | (apply WO.leq; exact rfl; exact rfl; all_goals first | (intro _; exfalso; omega) | intro _) | (apply WO.gtr; exact rfl; exact rfl; all_goals first | (intro _; exfalso; omega) | intro _) | (apply WO.pkT; exact rfl; exact rfl) | (apply WO.pkF; exact rfl; exact rfl) | (apply WO.pl; exact rfl; exact rfl) | (apply WO.pp; exact rfl; exact rfl)
      all_goals
        refine loop15 l n (by omega) l.length 0 _ _ (by omega) (fun h lo => ?_) (fun h a3 lo => ?_)
        · rw [List.drop_zero] at h
          rw [h]
          repeat' first | apply W.seq | apply SQn | apply W.region | apply WO.nil | apply W.block | apply W.ret | apply W.exit | apply W.skip | apply SQr | apply SQe | apply BQn | apply BQr | apply BQe | (apply BQo; exact rfl) | apply LQe | apply LQr | apply LIe | apply LIr | (apply W.condT; exact rfl) | (apply W.condF; exact rfl) | (apply W.cond; exact rfl; all_goals intro _) | (apply WO.gT; exact rfl) | (apply WO.gF; exact rfl) | (apply WO.sT; exact rfl) | (apply WO.sF; exact rfl) | (apply WO.sU; exact rfl) | (apply WO.leq; exact rfl; exact rfl; all_goals first | (intro _; exfalso; omega) | intro _) | (apply WO.gtr; exact rfl; exact rfl; all_goals first | (intro _; exfalso; omega) | intro _) | (apply WO.pkT; exact rfl; exact rfl) | (apply WO.pkF; exact rfl; exact rfl) | (apply WO.pl; exact rfl; exact rfl) | (apply WO.pp; exact rfl; exact rfl)
          exact ⟨.inr rfl, rfl, _, rfl, rfl, rfl⟩
        · rw [List.drop_zero] at h
          rw [h]
          repeat' first | apply W.seq | apply SQn | apply W.region | apply WO.nil | apply W.block | apply W.ret | apply W.exit | apply W.skip | apply SQr | apply SQe | apply BQn | apply BQr | apply BQe | (apply BQo; exact rfl) | apply LQe | apply LQr | apply LIe | apply LIr | (apply W.condT; exact rfl) | (apply W.condF; exact rfl) | (apply W.cond; exact rfl; all_goals intro _) | (apply WO.gT; exact rfl) | (apply WO.gF; exact rfl) | (apply WO.sT; exact rfl) | (apply WO.sF; exact rfl) | (apply WO.sU; exact rfl) | (apply WO.leq; exact rfl; exact rfl; all_goals first | (intro _; exfalso; omega) | intro _) | (apply WO.gtr; exact rfl; exact rfl; all_goals first | (intro _; exfalso; omega) | intro _) | (apply WO.pkT; exact rfl; exact rfl) | (apply WO.pkF; exact rfl; exact rfl) | (apply WO.pl; exact rfl; exact rfl) | (apply WO.pp; exact rfl; exact rfl)
          exact ⟨.inr rfl, rfl, _, rfl, rfl, rfl⟩
    · have e : shortA l n = false := by
        unfold shortA; rw [decide_eq_false h2, Bool.and_false]; rfl
      rw [e]
      repeat' first | apply W.seq | apply SQn | apply W.region | apply WO.nil | apply W.block | apply W.ret | apply W.exit | apply W.skip | apply SQr | apply SQe | apply BQn | apply BQr | apply BQe | (apply BQo; exact rfl) | apply LQe | apply LQr | apply LIe | apply LIr | (apply W.condT; exact rfl) | (apply W.condF; exact rfl) | (apply W.cond; exact rfl; all_goals intro _) | (apply WO.gT; exact rfl) | (apply WO.gF; exact rfl) | (apply WO.sT; exact rfl) | (apply WO.sF; exact rfl) | (apply WO.sU; exact rfl) | (apply WO.leq; exact rfl; exact rfl; all_goals first | (intro _; exfalso; omega) | intro _) | (apply WO.gtr; exact rfl; exact rfl; all_goals first | (intro _; exfalso; omega) | intro _) | (apply WO.pkT; exact rfl; exact rfl) | (apply WO.pkF; exact rfl; exact rfl) | (apply WO.pl; exact rfl; exact rfl) | (apply WO.pp; exact rfl; exact rfl)
      all_goals exact ⟨.inr rfl, rfl, _, rfl, rfl, rfl⟩
end Go.Ab.Ch6

