/-
  Own work: the resolved code of some functions of chapter 1.
-/
import Derived.Test.YtcjphdmkgmkabaaGreatDoorCh1Base
import Derived.Test.YtcjphdmkgmkabaaGreatDoorLib2
import Derived.Test.YtcjphdmkgmkabaaGreatDoorCh1Row
import Derived.IntWalk
import Derived.Sort.AssemblyPlain
namespace Go.Ab.Ch1
set_option maxRecDepth 1000000
def b19_0 : ICode :=
 .seq (.region [⟨(.l 21), .bin .lss (.p 9) (.p 8), none⟩])
  (.seq (.cond (.l 21)
    (.skip)
    (.exit 0))
   (.seq (.block 1
     (.seq (.region [⟨(.l 22), .mv (.p 9), none⟩,
        ⟨(.p 5), .mv (.l 22), none⟩])
      (.region [⟨(.l 23), .mv (.p 4), none⟩,
        ⟨(.l 24), .mv (.p 5), none⟩,
        ⟨(.l 25), .mv (.p 5), none⟩,
        ⟨(.l 26), .iaddr none 1 (.l 23) (.l 24), none⟩,
        ⟨.no, .store 1 (.l 26) (.l 25), none⟩])))
    (.region [⟨(.l 27), .bin .add (.p 9) (.c (.int .i64 (1))), none⟩,
      ⟨(.p 9), .mv (.l 27), none⟩])))
def b19_1 : ICode :=
 .seq (.seq (.region [⟨(.l 30), .mv (.p 6), none⟩,
     ⟨(.l 31), .bin .gtr (.l 30) (.c (.int .i64 (0))), none⟩])
   (.cond (.l 31)
    (.skip)
    (.exit 2)))
  (.seq (.block 3
    (.seq (.region [⟨(.l 34), .mv (.p 0), none⟩,
       ⟨(.l 35), .bin .mul (.c (.int .i64 (69621))) (.l 34), none⟩,
       ⟨(.l 36), .bin .rem (.l 35) (.c (.int .i64 (2147483647))), none⟩,
       ⟨(.p 0), .mv (.l 36), none⟩])
     (.seq (.region [⟨(.l 37), .mv (.p 0), none⟩,
        ⟨(.l 38), .mv (.p 6), none⟩,
        ⟨(.l 39), .bin .add (.l 38) (.c (.int .i64 (1))), none⟩,
        ⟨(.l 40), .bin .rem (.l 37) (.l 39), none⟩,
        ⟨(.p 7), .mv (.l 40), none⟩])
      (.draw [(⟨(.l 41), .mv (.p 4), none⟩, []),
        (⟨(.l 42), .mv (.p 6), none⟩, [0]),
        (⟨(.l 43), .mv (.p 4), none⟩, [0, 1]),
        (⟨(.l 44), .mv (.p 7), none⟩, [0, 1, 2]),
        (⟨(.l 45), .mv (.p 4), none⟩, [0, 1, 2, 3]),
        (⟨(.l 46), .mv (.p 7), none⟩, [0, 1, 2, 3, 4]),
        (⟨(.l 47), .iaddr none 1 (.l 45) (.l 46), none⟩, [0, 1, 2, 3]),
        (⟨(.l 48), .load 1 false (.l 47), none⟩, [0, 1, 2, 3]),
        (⟨(.l 49), .mv (.p 4), none⟩, [0, 1, 2, 3, 4, 5, 6, 7]),
        (⟨(.l 50), .mv (.p 6), none⟩, [0, 1, 2, 3, 4, 5, 6, 7, 8]),
        (⟨(.l 51), .iaddr none 1 (.l 49) (.l 50), none⟩, [0, 1, 2, 3, 4, 5, 6, 7]),
        (⟨(.l 52), .load 1 false (.l 51), none⟩, [0, 1, 2, 3, 4, 5, 6, 7]),
        (⟨(.l 53), .iaddr none 1 (.l 41) (.l 42), none⟩, [2, 3]),
        (⟨.no, .store 1 (.l 53) (.l 48), none⟩, [2, 3]),
        (⟨(.l 54), .iaddr none 1 (.l 43) (.l 44), none⟩, []),
        (⟨.no, .store 1 (.l 54) (.l 52), none⟩, [])]))))
   (.region [⟨(.l 32), .mv (.p 6), none⟩,
     ⟨(.l 33), .bin .sub (.l 32) (.c (.int .i64 (1))), none⟩,
     ⟨(.p 6), .mv (.l 33), none⟩]))
/-- stadion/mark.Draw -/
def b19 : ICode :=
 .seq (.region [⟨(.p 2), .mv (.c (.nilsl)), none⟩,
    ⟨(.p 3), .mv (.c (.int .i64 (0))), none⟩])
  (.seq (.seq (.region [⟨(.l 10), .mv (.p 0), none⟩,
      ⟨(.l 11), .call (.c (.fn (.func 95) [] [])) [(.l 10), (.c (.int .i64 (1))), (.c (.int .i64 (2147483646)))], none⟩,
      ⟨(.l 12), .mv (.l 11), none⟩,
      ⟨(.l 13), .mv (.p 1), some ((.l 12), false)⟩,
      ⟨(.l 14), .call (.c (.fn (.func 95) [] [])) [(.l 13), (.c (.int .i64 (0))), (.c (.int .i64 (256)))], some ((.l 12), false)⟩,
      ⟨(.l 15), .pick (.l 12) (.c (.bool true)) (.l 14), none⟩])
    (.cond (.l 15)
     (.seq (.region [⟨(.p 2), .mv (.c (.nilsl)), none⟩,
        ⟨(.p 3), .mv (.c (.int .i64 (3))), none⟩])
      (.ret))
     (.skip)))
   (.seq (.region [⟨(.l 16), .mv (.p 1), none⟩,
      ⟨(.l 17), .mkslice 3 1 8 [.int .i64 (0)] (.l 16) (.l 16), none⟩,
      ⟨(.p 4), .mv (.l 17), none⟩])
    (.seq (.seq (.region [⟨(.l 18), .mv (.p 4), none⟩,
        ⟨(.p 8), .len .sl (.l 18), none⟩,
        ⟨(.p 9), .mv (.c (.int .i64 (0))), none⟩])
      (.block 0
       (.loop b19_0)))
     (.seq (.seq (.region [⟨(.l 28), .mv (.p 1), none⟩,
         ⟨(.l 29), .bin .sub (.l 28) (.c (.int .i64 (1))), none⟩,
         ⟨(.p 6), .mv (.l 29), none⟩])
       (.block 2
        (.loop b19_1)))
      (.seq (.region [⟨(.l 55), .mv (.p 4), none⟩,
         ⟨(.p 2), .mv (.l 55), none⟩,
         ⟨(.p 3), .mv (.c (.int .i64 (0))), none⟩])
       (.ret))))))
/-- stadion/mark.outside -/
def b95 : ICode :=
 .seq (.region [⟨(.p 3), .mv (.c (.bool false)), none⟩])
  (.seq (.region [⟨(.l 7), .mv (.p 0), none⟩,
     ⟨(.l 8), .mv (.p 1), none⟩,
     ⟨(.l 9), .bin .lss (.l 7) (.l 8), none⟩,
     ⟨(.l 10), .mv (.l 9), none⟩,
     ⟨(.l 11), .mv (.p 0), some ((.l 10), false)⟩,
     ⟨(.l 12), .mv (.p 2), some ((.l 10), false)⟩,
     ⟨(.l 13), .bin .gtr (.l 11) (.l 12), some ((.l 10), false)⟩,
     ⟨(.l 14), .pick (.l 10) (.c (.bool true)) (.l 13), none⟩,
     ⟨(.p 3), .mv (.l 14), none⟩])
   (.ret))
theorem ft95 : FT 95 = some ⟨15, [0, 1, 2, 6], [.var (.p 3)], b95⟩ := by kernel_rfl

/-- stadion/stadionref01.CheckDraw -/
def b20 : ICode :=
 .seq (.region [⟨(.p 2), .mv (.c (.int .i64 (0))), none⟩])
  (.seq (.seq (.region [⟨(.l 5), .mv (.p 0), none⟩,
      ⟨(.l 6), .bin .lss (.l 5) (.c (.int .i64 (1))), none⟩,
      ⟨(.l 7), .mv (.l 6), none⟩,
      ⟨(.l 8), .mv (.p 0), some ((.l 7), false)⟩,
      ⟨(.l 9), .bin .gtr (.l 8) (.c (.int .i64 (2147483646))), some ((.l 7), false)⟩,
      ⟨(.l 10), .pick (.l 7) (.c (.bool true)) (.l 9), none⟩,
      ⟨(.l 11), .mv (.l 10), none⟩,
      ⟨(.l 12), .mv (.p 1), some ((.l 11), false)⟩,
      ⟨(.l 13), .bin .lss (.l 12) (.c (.int .i64 (0))), some ((.l 11), false)⟩,
      ⟨(.l 14), .pick (.l 11) (.c (.bool true)) (.l 13), none⟩,
      ⟨(.l 15), .mv (.l 14), none⟩,
      ⟨(.l 16), .mv (.p 1), some ((.l 15), false)⟩,
      ⟨(.l 17), .bin .gtr (.l 16) (.c (.int .i64 (256))), some ((.l 15), false)⟩,
      ⟨(.l 18), .pick (.l 15) (.c (.bool true)) (.l 17), none⟩])
    (.cond (.l 18)
     (.seq (.region [⟨(.p 2), .mv (.c (.int .i64 (3))), none⟩])
      (.ret))
     (.skip)))
   (.seq (.region [⟨(.p 2), .mv (.c (.int .i64 (0))), none⟩])
    (.ret)))
theorem ft20 : FT 20 = some ⟨19, [0, 1, 4], [.var (.p 2)], b20⟩ := by kernel_rfl

end Go.Ab.Ch1


/-
  Own work: plain facts of drawn orders: an exchange after the other gives an order of the same elements; its last place and the rest.
-/
namespace Go.Ab

def lcg (key : Int) : Int := 69621 * key % 2147483647
def slot (i : Nat) (key : Int) : Int := lcg key % ((i : Int) + 1)

/-- The exchanges of a drawn order, from place i down. -/
def shuf : Nat → Int → List Int → List Int
  | 0, _, l => l
  | i + 1, key, l => shuf i (lcg key) ((l.set (i + 1) l[(slot (i + 1) key).toNat]!).set (slot (i + 1) key).toNat l[i + 1]!)
theorem shuf_length : ∀ (i : Nat) (key : Int) (l : List Int), (shuf i key l).length = l.length
  | 0, _, _ => rfl
  | i + 1, key, l => by rw [shuf, shuf_length]; simp
def upto (n : Nat) : List Int := (List.range n).map Int.ofNat
theorem upto_length (n : Nat) : (upto n).length = n := by simp [upto]
theorem slot_range {i : Nat} {key : Int} : 0 ≤ slot i key ∧ slot i key < (i : Int) + 1 := by
  unfold slot
  exact ⟨Int.emod_nonneg _ (by omega), Int.emod_lt_of_pos _ (by omega)⟩
theorem swap_perm (l : List Int) {i j : Nat} (hi : i < l.length) (hj : j < l.length) : ((l.set i l[j]!).set j l[i]!).Perm l := by
  rw [getElem!_pos l i hi, getElem!_pos l j hj]
  exact List.set_set_perm hi hj

theorem shuf_perm : ∀ (i : Nat) (key : Int) (l : List Int), (i < l.length ∨ i = 0) → (shuf i key l).Perm l
  | 0, _, _, _ => List.Perm.refl _
  | i + 1, key, l, h => by
    have := slot_range (i := i + 1) (key := key)
    exact (shuf_perm i (lcg key) _ (by simp; omega)).trans (swap_perm l (by omega) (by omega))

theorem drawn_mem (n : Nat) (key : Int) {x : Int} (h : x ∈ shuf (n - 1) key (upto n)) : 0 ≤ x ∧ x < n := by
  rw [(shuf_perm (n - 1) key (upto n) (by rw [upto_length]; omega)).mem_iff] at h
  simp only [upto, List.mem_map, List.mem_range] at h
  obtain ⟨a, ha, rfl⟩ := h
  exact ⟨Int.natCast_nonneg a, by show (a : Int) < n; omega⟩
end Go.Ab


/-
  Own work: mark.Draw, mark.outside, stadionref01.CheckDraw: what they compute.
-/
namespace Go.Ab.Ch1
open Go.Proofs.Tryz
variable {M : Mach}

theorem w95 (hft : M.FT = FT) (x lo hi : Int) : Run M 95 [.int .i64 x, .int .i64 lo, .int .i64 hi] [] ⟨.bool (decide (x < lo) || decide (hi < x)), [], []⟩ := by
  refine run_of_W (by rw [hft]; exact ft95) (by simp) ?_
  unfold b95
  repeat' first | apply W.seq | apply SQn | apply W.region | apply WO.nil | apply W.block | apply W.ret | apply W.exit | apply W.skip | apply SQr | apply SQe | apply BQn | apply BQr | apply BQe | (apply BQo; exact rfl) | apply LQe | apply LQr | (apply W.condT; exact rfl) | (apply W.condF; exact rfl) | (apply W.cond; exact rfl; all_goals intro _) | (apply WO.gT; exact rfl) | (apply WO.gF; exact rfl) | (apply WO.sT; exact rfl) | (apply WO.sF; exact rfl) | (apply WO.sU; exact rfl) | (apply WO.lss; exact rfl; exact rfl; all_goals first | (intro _; exfalso; omega) | intro _) | (apply WO.gtr; exact rfl; exact rfl; all_goals first | (intro _; exfalso; omega) | intro _) | (apply WO.pkT; exact rfl; exact rfl) | (apply WO.pkF; exact rfl; exact rfl) | (apply WO.pl; exact rfl; exact rfl) | (apply WO.pp; exact rfl; exact rfl)
  all_goals exact ⟨.inr rfl, rfl, _, rfl, by simp [tupA, *]; try omega, by simp [AV.top]⟩

theorem w20 (hft : M.FT = FT) (key n : Int) : Run M 20 [.int .i64 key, .int .i64 n] [] ⟨.int .i64 (if key < 1 ∨ 2147483646 < key ∨ n < 0 ∨ 256 < n then 3 else 0), [], []⟩ := by
  refine run_of_W (by rw [hft]; exact ft20) (by simp) ?_
  unfold b20
  repeat' first | apply W.seq | apply SQn | apply W.region | apply WO.nil | apply W.block | apply W.ret | apply W.exit | apply W.skip | apply SQr | apply SQe | apply BQn | apply BQr | apply BQe | (apply BQo; exact rfl) | apply LQe | apply LQr | (apply W.condT; exact rfl) | (apply W.condF; exact rfl) | (apply W.cond; exact rfl; all_goals intro _) | (apply WO.gT; exact rfl) | (apply WO.gF; exact rfl) | (apply WO.sT; exact rfl) | (apply WO.sF; exact rfl) | (apply WO.sU; exact rfl) | (apply WO.lss; exact rfl; exact rfl; all_goals first | (intro _; exfalso; omega) | intro _) | (apply WO.gtr; exact rfl; exact rfl; all_goals first | (intro _; exfalso; omega) | intro _) | (apply WO.pkT; exact rfl; exact rfl) | (apply WO.pkF; exact rfl; exact rfl) | (apply WO.pl; exact rfl; exact rfl) | (apply WO.pp; exact rfl; exact rfl)
  all_goals refine ⟨.inr rfl, rfl, _, rfl, ?_, by simp [AV.top]⟩
  all_goals first | rw [if_pos (by omega)] | rw [if_neg (by omega)]
  all_goals rfl

end Go.Ab.Ch1


/-
  Own work: contracts of chapter 1 as a table.
-/
namespace Go.Ab
open Go.ChangeShapes Go.WideShapes Go.RowKit
variable {P : Program} {gl : Nat → Option AV}

theorem mach_ft {FT : FuncId → Option IFunc} {T : List (Nat × Spec)} : (mach P FT T).FT = FT := rfl
theorem mach_ext {FT : FuncId → Option IFunc} {T : List (Nat × Spec)} : (mach P FT T).ext = extS T := rfl

/-- A law that answers true, as the kit's contract. -/
theorem calls_true {FT : FuncId → Option IFunc} (hs : Seat P gl FT) {T : List (Nat × Spec)} (hT : ExtOK P gl (extS T)) {f : Nat} {xs : List AV} {w : World} (hr : Run (mach P FT T) f xs [] ⟨.bool true, [], []⟩)
    (hgl : ∀ g v, gl g = some v → V bare w v (.pointer (some ⟨g, 0, none⟩))) {as' : List Value} (hv : VL bare w xs as') : Calls P f as'.toArray w fun e w' => e = .returned (.bool true) ∧ Below w.heap.size w w' := by
  obtain ⟨n, hn⟩ := hr
  refine (calls_of_run hs.mix hT hs.ft hn hgl hv).mono fun e w' he => ?_
  obtain ⟨v', h1, ⟨ρ', h2⟩, h3⟩ := he
  cases h2
  exact ⟨h1, below_of h3⟩
end Go.Ab
namespace Go.Ab.Ch1
open Go.Proofs

def s18 : Spec := spec0 [] (.bool true)
theorem s18_ok : SpecOK Tryz.prog gl 18 s18 := spec0_ok gl_top rfl rfl o22
def s95 : Spec := fun
  | [.int .i64 x, .int .i64 lo, .int .i64 hi], h => some ⟨.bool (decide (x < lo) || decide (hi < x)), h, []⟩
  | _, _ => none
theorem s95_ok : SpecOK Tryz.prog gl 95 s95 := by
  intro xs h r hq
  unfold s95 at hq
  split at hq
  · cases hq
    exact ent_run0 seat tab_nil (w95 (M := mach Tryz.prog FT []) mach_ft _ _ _) (FrL.same rfl) rfl (.inl rfl)
  · cases hq

def s20 : Spec := fun
  | [.int .i64 key, .int .i64 n], h => some ⟨.int .i64 (if key < 1 ∨ 2147483646 < key ∨ n < 0 ∨ 256 < n then 3 else 0), h, []⟩
  | _, _ => none
theorem s20_ok : SpecOK Tryz.prog gl 20 s20 := by
  intro xs h r hq
  unfold s20 at hq
  split at hq
  · cases hq
    exact ent_run0 seat tab_nil (w20 (M := mach Tryz.prog FT []) mach_ft _ _) (FrL.same rfl) rfl (.inl rfl)
  · cases hq

theorem ints_top (l : List Int) : topL (ints l) = 0 := topL_arr (fun _ => rfl) l
end Go.Ab.Ch1


/-
  Own work: the resolved code of some functions of chapter 1: first, when.
-/
namespace Go.Ab.Ch1
set_option maxRecDepth 1000000
/-- stadion/mark.when -/
def b97 : ICode :=
 .seq (.region [⟨(.p 2), .mv (.c (.int .i64 (0))), none⟩])
  (.seq (.seq (.region [⟨(.l 5), .mv (.p 0), none⟩])
    (.cond (.l 5)
     (.seq (.region [⟨(.l 6), .mv (.p 1), none⟩,
        ⟨(.p 2), .mv (.l 6), none⟩])
      (.ret))
     (.skip)))
   (.seq (.region [⟨(.p 2), .mv (.c (.int .i64 (0))), none⟩])
    (.ret)))
theorem ft97 : FT 97 = some ⟨7, [0, 1, 4], [.var (.p 2)], b97⟩ := by kernel_rfl

def b96_0 : ICode :=
 .seq (.region [⟨(.l 8), .bin .lss (.p 5) (.p 4), none⟩])
  (.seq (.cond (.l 8)
    (.skip)
    (.exit 0))
   (.seq (.block 1
     (.seq (.region [⟨(.l 9), .iaddr none 1 (.p 3) (.p 5), none⟩,
        ⟨(.l 10), .load 1 false (.l 9), none⟩,
        ⟨(.p 2), .mv (.l 10), none⟩])
      (.seq (.region [⟨(.l 11), .mv (.p 2), none⟩,
         ⟨(.l 12), .bin .neq (.l 11) (.c (.int .i64 (0))), none⟩])
       (.cond (.l 12)
        (.seq (.region [⟨(.l 13), .mv (.p 2), none⟩,
           ⟨(.p 1), .mv (.l 13), none⟩])
         (.ret))
        (.skip)))))
    (.region [⟨(.l 14), .bin .add (.p 5) (.c (.int .i64 (1))), none⟩,
      ⟨(.p 5), .mv (.l 14), none⟩])))
/-- stadion/mark.first -/
def b96 : ICode :=
 .seq (.region [⟨(.p 1), .mv (.c (.int .i64 (0))), none⟩])
  (.seq (.seq (.region [⟨(.p 3), .mv (.p 0), none⟩,
      ⟨(.p 4), .len .sl (.p 3), none⟩,
      ⟨(.p 5), .mv (.c (.int .i64 (0))), none⟩])
    (.block 0
     (.loop b96_0)))
   (.seq (.region [⟨(.p 1), .mv (.c (.int .i64 (0))), none⟩])
    (.ret)))
theorem ft96 : FT 96 = some ⟨15, [0, 2, 4, 5, 6, 7], [.var (.p 1)], b96⟩ := by kernel_rfl

end Go.Ab.Ch1


/-
  Own work: first and when of chapter 1.
-/
namespace Go.Ab.Ch1
variable {inv : InvF} {F : FuncId → Option IFunc}

abbrev mk0 (T : List (Nat × Spec)) (inv : InvF) (F : FuncId → Option IFunc) : Mach := ⟨extS T, inv, F⟩

theorem ext_hd {g : Nat} {sp : Spec} {T : List (Nat × Spec)} {xs : List AV} {h : Heap} : extS ((g, sp) :: T) g xs h = sp xs h := by simp [extS]

def firstNZ : List Int → Int
  | [] => 0
  | e :: r => if e = 0 then firstNZ r else e

def specWhen : Spec := fun
  | [.bool t, .int .i64 e], h => some ⟨.int .i64 (if t then e else 0), h, []⟩
  | _, _ => none
def specFirst : Spec := fun
  | [v], h => match intsAt h v with
    | some l => if l.length < 4611686018427387904 then some ⟨.int .i64 (firstNZ l), h, []⟩ else none
    | none => none
  | _, _ => none

theorem w97 {T : List (Nat × Spec)} (hft : F = FT) (t : Bool) (e : Int) : Run (mk0 T inv F) 97 [.bool t, .int .i64 e] [] ⟨.int .i64 (if t then e else 0), [], []⟩ := by
  refine run_of_W (show F 97 = _ from by rw [hft]; exact ft97) (by simp) ?_
  unfold b97
  simp only [List.map_cons, List.map_nil, List.getElem?_cons_zero, List.getElem?_cons_succ, List.getElem?_nil, Option.getD_some, Option.getD_none]
  cases t
  all_goals
    repeat' first | apply W.seq | apply SQn | apply W.region | apply WO.nil | apply W.block | apply W.ret | apply W.exit | apply W.skip | apply SQr | apply SQe | apply BQn | apply BQr | apply BQe | (apply BQo; exact rfl) | apply LQe | apply LQr | (apply W.condT; exact rfl) | (apply W.condF; exact rfl) | (apply W.cond; exact rfl; all_goals intro _) | (apply WO.pl; exact rfl; exact rfl) | (apply WO.pp; exact rfl; exact rfl)
  all_goals exact ⟨.inr rfl, rfl, _, rfl, rfl, rfl⟩

theorem firstNZ_drop {l : List Int} {i : Nat} (h : i < l.length) : firstNZ (l.drop i) = if l[i]! = 0 then firstNZ (l.drop (i + 1)) else l[i]! := by
  rw [List.drop_eq_getElem_cons h, getElem!_pos l i h, firstNZ]

theorem body96 {T : List (Nat × Spec)} (l : List Int) (cap : Option Nat) (a0 : AV) (hl : l.length < 4611686018427387904) (hp : Heap) (df : List Nat) {Q : Ex → StW → Prop} : ∀ (r i : Nat), i + r = l.length → ∀ (a1 a2 : AV) (lo : List (Nat × AV)) (wr : List Nat),
    (firstNZ (l.drop i) = 0 → ∀ a2 lo wr, Q (.exit 0) ⟨⟨[a0, a1, a2, .vs (ints l) l.length cap, .int .i64 l.length, .int .i64 l.length], lo, hp, df⟩, wr⟩) →
    (∀ a2 a5 lo wr, Q .ret ⟨⟨[a0, .int .i64 (firstNZ (l.drop i)), a2, .vs (ints l) l.length cap, .int .i64 l.length, a5], lo, hp, df⟩, wr⟩) →
    W (mk0 T inv F) (.loop b96_0) ⟨⟨[a0, a1, a2, .vs (ints l) l.length cap, .int .i64 l.length, .int .i64 i], lo, hp, df⟩, wr⟩ Q
  | 0, i, hi, a1, a2, lo, wr, h1, h2 => by
    obtain rfl : i = l.length := by omega
    refine W.loop ?_
    unfold b96_0
    repeat' first | apply W.seq | apply SQn | apply W.region | apply WO.nil | apply W.block | apply W.ret | apply W.exit | apply W.skip | apply SQr | apply SQe | apply BQn | apply BQr | apply BQe | (apply BQo; exact rfl) | apply LQe | apply LQr | (apply W.condT; exact rfl) | (apply W.condF; exact rfl) | (apply W.cond; exact rfl; all_goals intro _) | (apply WO.lss; exact rfl; exact rfl; all_goals first | (intro _; exfalso; omega) | intro _) | (apply WO.neq; exact rfl; exact rfl; all_goals first | (intro _; exfalso; omega) | intro _) | (apply WO.add; exact rfl; exact rfl; omega) | (apply WO.iav; exact rfl; exact rfl; omega) | (apply WO.ias; exact rfl; exact rfl; omega) | (apply WO.lda; exact rfl; exact fun _ => rfl; (first | omega | (simp only [List.length_set]; omega) | (simp; omega)); decide; exact rfl; case ia => infer_instance) | (apply WO.lsa; exact rfl; (first | exact rfl | assumption | exact at_new | (apply at_old; assumption) | (apply at_put; first | assumption | (simp only [put_length]; assumption))); exact fun _ => rfl; (first | omega | (simp only [List.length_set]; omega) | (simp; omega)); decide; exact rfl; case ia => infer_instance) | (apply WO.sneq; exact rfl; exact rfl; all_goals first | (intro h; exact absurd h (by decide)) | (intro h; exact absurd rfl h) | (intro h; contradiction) | intro _) | (apply WO.hlv; exact rfl; exact rfl; exact rfl) | (apply WO.hpv; exact rfl; exact rfl; exact rfl) | (apply WO.hnv; exact rfl; exact rfl; exact rfl) | (apply WO.pl; exact rfl; exact rfl) | (apply WO.pp; exact rfl; exact rfl)
    exact h1 (by simp [firstNZ]) _ _ _
  | r + 1, i, hi, a1, a2, lo, wr, h1, h2 => by
    have e := firstNZ_drop (l := l) (i := (i : Int).toNat) (by omega)
    rw [Int.toNat_natCast] at e
    refine W.loop ?_
    unfold b96_0
    repeat' first | apply W.seq | apply SQn | apply W.region | apply WO.nil | apply W.block | apply W.ret | apply W.exit | apply W.skip | apply SQr | apply SQe | apply BQn | apply BQr | apply BQe | (apply BQo; exact rfl) | apply LQe | apply LQr | (apply W.condT; exact rfl) | (apply W.condF; exact rfl) | (apply W.cond; exact rfl; all_goals intro _) | (apply WO.lss; exact rfl; exact rfl; all_goals first | (intro _; exfalso; omega) | intro _) | (apply WO.neq; exact rfl; exact rfl; all_goals first | (intro _; exfalso; omega) | intro _) | (apply WO.add; exact rfl; exact rfl; omega) | (apply WO.iav; exact rfl; exact rfl; omega) | (apply WO.ias; exact rfl; exact rfl; omega) | (apply WO.lda; exact rfl; exact fun _ => rfl; (first | omega | (simp only [List.length_set]; omega) | (simp; omega)); decide; exact rfl; case ia => infer_instance) | (apply WO.lsa; exact rfl; (first | exact rfl | assumption | exact at_new | (apply at_old; assumption) | (apply at_put; first | assumption | (simp only [put_length]; assumption))); exact fun _ => rfl; (first | omega | (simp only [List.length_set]; omega) | (simp; omega)); decide; exact rfl; case ia => infer_instance) | (apply WO.sneq; exact rfl; exact rfl; all_goals first | (intro h; exact absurd h (by decide)) | (intro h; exact absurd rfl h) | (intro h; contradiction) | intro _) | (apply WO.hlv; exact rfl; exact rfl; exact rfl) | (apply WO.hpv; exact rfl; exact rfl; exact rfl) | (apply WO.hnv; exact rfl; exact rfl; exact rfl) | (apply WO.pl; exact rfl; exact rfl) | (apply WO.pp; exact rfl; exact rfl)
    · rename_i hne
      rw [Int.toNat_natCast] at hne
      rw [if_neg hne] at e
      rw [e] at h2
      exact h2 _ _ _ _
    · rename_i he
      rw [Int.toNat_natCast] at he
      rw [if_pos he] at e
      rw [e] at h1 h2
      exact LQn (body96 l cap a0 hl hp df r (i + 1) (by omega) _ _ _ _ h1 h2)
theorem w96 {T : List (Nat × Spec)} (hft : F = FT) (l : List Int) (cap : Option Nat) (hl : l.length < 4611686018427387904) : Run (mk0 T inv F) 96 [.vs (ints l) l.length cap] [] ⟨.int .i64 (firstNZ l), [], []⟩ := by
  refine run_of_W (show F 96 = _ from by rw [hft]; exact ft96) (by simp) ?_
  unfold b96
  simp only [List.map_cons, List.map_nil, List.getElem?_cons_zero, List.getElem?_cons_succ, List.getElem?_nil, Option.getD_some, Option.getD_none]
  repeat' first | apply W.seq | apply SQn | apply W.region | apply WO.nil | apply W.block | apply W.ret | apply W.exit | apply W.skip | apply SQr | apply SQe | apply BQn | apply BQr | apply BQe | (apply BQo; exact rfl) | apply LQe | apply LQr | (apply W.condT; exact rfl) | (apply W.condF; exact rfl) | (apply W.cond; exact rfl; all_goals intro _) | (apply WO.pl; exact rfl; exact rfl) | (apply WO.pp; exact rfl; exact rfl)
  refine body96 l cap _ hl _ _ l.length 0 (by omega) _ _ _ _ (fun h a2 lo wr => ?_) (fun a2 a5 lo wr => ?_)
  · repeat' first | apply W.seq | apply SQn | apply W.region | apply WO.nil | apply W.block | apply W.ret | apply W.exit | apply W.skip | apply SQr | apply SQe | apply BQn | apply BQr | apply BQe | (apply BQo; exact rfl) | apply LQe | apply LQr | (apply W.condT; exact rfl) | (apply W.condF; exact rfl) | (apply W.cond; exact rfl; all_goals intro _) | (apply WO.pl; exact rfl; exact rfl) | (apply WO.pp; exact rfl; exact rfl)
    exact ⟨.inr rfl, rfl, _, rfl, by rw [List.drop_zero] at h; rw [h]; rfl, rfl⟩
  · repeat' first | apply W.seq | apply SQn | apply W.region | apply WO.nil | apply W.block | apply W.ret | apply W.exit | apply W.skip | apply SQr | apply SQe | apply BQn | apply BQr | apply BQe | (apply BQo; exact rfl) | apply LQe | apply LQr | (apply W.condT; exact rfl) | (apply W.condF; exact rfl) | (apply W.cond; exact rfl; all_goals intro _) | (apply WO.pl; exact rfl; exact rfl) | (apply WO.pp; exact rfl; exact rfl)
    exact ⟨.inr rfl, rfl, _, rfl, rfl, rfl⟩

end Go.Ab.Ch1


/-
  Own work: the contracts of first and when as a table.
-/
namespace Go.Ab.Ch1
open Go.Proofs

theorem when97 : SpecOK Tryz.prog gl 97 specWhen := by
  intro xs h r hq
  unfold specWhen at hq
  split at hq
  · cases hq; exact ent_run0 seat tab_nil (w97 (T := []) rfl _ _) (FrL.same rfl) rfl (.inl rfl)
  · cases hq
theorem first_ok {f : Nat} (hw : ∀ (l : List Int) cap, l.length < 4611686018427387904 → Run (mach Tryz.prog FT []) f [.vs (ints l) l.length cap] [] ⟨.int .i64 (firstNZ l), [], []⟩) : SpecOK Tryz.prog gl f specFirst := by
  intro xs h r hq
  unfold specFirst at hq
  split at hq
  · split at hq
    · rename_i l hl
      split at hq
      · rename_i hlen
        cases hq
        obtain ⟨S, cap, hf⟩ := (intsAt_sl hl).fr (fun _ => rfl)
        exact ent_run0 seat tab_nil (hw l cap hlen) (.cons hf .nil) rfl (.inr rfl)
      · cases hq
    · cases hq
  · cases hq
theorem first96 : SpecOK Tryz.prog gl 96 specFirst := first_ok fun l cap h => w96 (T := []) rfl l cap h
end Go.Ab.Ch1


/-
  Own work: the resolved code of some functions of chapter 1: marks.
-/
namespace Go.Ab.Ch1
set_option maxRecDepth 1000000
/-- stadion/mark.CheckMark -/
def b36 : ICode :=
 .seq (.region [⟨(.p 1), .box 49 3 (.p 0), none⟩,
    ⟨(.p 2), .mv (.c (.int .i64 (0))), none⟩])
  (.seq (.seq (.region [⟨(.l 5), .faddr 0 (.p 1), none⟩,
      ⟨(.l 6), .load 1 false (.l 5), none⟩,
      ⟨(.l 7), .bin .eql (.l 6) (.c (.str [110, 111, 110, 101])), none⟩])
    (.cond (.l 7)
     (.seq (.draw [(⟨(.l 8), .faddr 2 (.p 1), none⟩, []),
        (⟨(.l 9), .load 1 false (.l 8), none⟩, []),
        (⟨(.l 10), .call (.c (.fn (.func 112) [] [])) [(.l 9)], none⟩, []),
        (⟨(.l 11), .un .not (.l 10), none⟩, []),
        (⟨(.l 12), .call (.c (.fn (.func 97) [] [])) [(.l 11), (.c (.int .i64 (1)))], none⟩, []),
        (⟨(.l 13), .faddr 1 (.p 1), none⟩, [0, 1, 2, 3, 4]),
        (⟨(.l 14), .load 1 false (.l 13), none⟩, [0, 1, 2, 3, 4]),
        (⟨(.l 15), .bin .neq (.l 14) (.c (.int .i64 (0))), none⟩, [0, 1, 2, 3, 4]),
        (⟨(.l 16), .call (.c (.fn (.func 97) [] [])) [(.l 15), (.c (.int .i64 (3)))], none⟩, []),
        (⟨(.l 17), .bslice 25 2 1 [.int .i64 (0)] [(0, 1, (.l 12)), (1, 1, (.l 16))], none⟩, []),
        (⟨(.l 18), .call (.c (.fn (.func 96) [] [])) [(.l 17)], none⟩, []),
        (⟨(.p 2), .mv (.l 18), none⟩, [])])
      (.ret))
     (.skip)))
   (.seq (.draw [(⟨(.l 20), .call (.c (.fn (.func 113) [] [])) [], none⟩, []),
      (⟨(.l 21), .faddr 0 (.p 1), none⟩, [0]),
      (⟨(.l 22), .load 1 false (.l 21), none⟩, [0]),
      (⟨(.l 23), .lookup .str (.agg [.int .i64 (0), .int .i64 (0), .bool false, .nilmap, .nilfn]) (.l 20) (.l 22) true, none⟩, []),
      (⟨(.l 19), .mv (.l 23), none⟩, []),
      (⟨(.l 24), .extract 0 (.l 19), none⟩, []),
      (⟨(.l 25), .extract 1 (.l 19), none⟩, [5]),
      (⟨(.p 3), .alloc 141 [.int .i64 (0), .int .i64 (0), .bool false, .nilmap, .nilfn], none⟩, [0, 1, 2, 3, 4, 5, 6]),
      (⟨.no, .store 5 (.p 3) (.l 24), none⟩, [6]),
      (⟨(.p 4), .mv (.l 25), none⟩, [])])
    (.seq (.draw [(⟨(.l 26), .mv (.p 4), none⟩, []),
       (⟨(.l 27), .un .not (.l 26), none⟩, []),
       (⟨(.l 28), .call (.c (.fn (.func 97) [] [])) [(.l 27), (.c (.int .i64 (13)))], none⟩, []),
       (⟨(.l 29), .faddr 2 (.p 1), none⟩, [0, 1, 2]),
       (⟨(.l 30), .load 1 false (.l 29), none⟩, [0, 1, 2]),
       (⟨(.l 31), .bin .neq (.l 30) (.c (.str [])), none⟩, [0, 1, 2]),
       (⟨(.l 32), .call (.c (.fn (.func 97) [] [])) [(.l 31), (.c (.int .i64 (1)))], none⟩, []),
       (⟨(.l 33), .faddr 1 (.p 1), none⟩, [0, 1, 2, 3, 4, 5, 6]),
       (⟨(.l 34), .load 1 false (.l 33), none⟩, [0, 1, 2, 3, 4, 5, 6]),
       (⟨(.l 35), .faddr 0 (.p 3), none⟩, [0, 1, 2, 3, 4, 5, 6, 7, 8]),
       (⟨(.l 36), .load 1 false (.l 35), none⟩, [0, 1, 2, 3, 4, 5, 6, 7, 8]),
       (⟨(.l 37), .faddr 1 (.p 3), none⟩, [0, 1, 2, 3, 4, 5, 6, 7, 8, 9, 10]),
       (⟨(.l 38), .load 1 false (.l 37), none⟩, [0, 1, 2, 3, 4, 5, 6, 7, 8, 9, 10]),
       (⟨(.l 39), .call (.c (.fn (.func 95) [] [])) [(.l 34), (.l 36), (.l 38)], none⟩, []),
       (⟨(.l 40), .call (.c (.fn (.func 97) [] [])) [(.l 39), (.c (.int .i64 (3)))], none⟩, []),
       (⟨(.l 41), .bslice 25 3 1 [.int .i64 (0)] [(0, 1, (.l 28)), (1, 1, (.l 32)), (2, 1, (.l 40))], none⟩, []),
       (⟨(.l 42), .call (.c (.fn (.func 96) [] [])) [(.l 41)], none⟩, []),
       (⟨(.p 2), .mv (.l 42), none⟩, [])])
     (.ret))))
theorem ft36 : FT 36 = some ⟨43, [0, 1, 2, 3, 4], [.var (.p 2)], b36⟩ := by kernel_rfl

/-- stadion/mark.kinds -/
def b113 : ICode :=
 .seq (.region [⟨(.p 0), .mv (.c (.nilmap)), none⟩])
  (.seq (.region [⟨(.l 1), .mkmap, none⟩,
     ⟨(.l 2), .mkmap, none⟩,
     ⟨.no, .mapset .str (.l 2) (.c (.str [101, 120, 97, 99, 116])) (.c (.int .i64 (1))), none⟩,
     ⟨.no, .mapset .str (.l 2) (.c (.str [104, 117, 110, 100, 114, 101, 100, 116, 104, 115])) (.c (.int .i64 (100))), none⟩,
     ⟨.no, .mapset .str (.l 2) (.c (.str [116, 101, 110, 116, 104, 115])) (.c (.int .i64 (1000))), none⟩,
     ⟨(.l 3), .mv (.l 2), none⟩,
     ⟨(.l 4), .build [.int .i64 (0), .int .i64 (0), .bool false, .nilmap, .nilfn] [(0, 1, (.c (.int .i64 (1)))), (1, 1, (.c (.int .i64 (863999999)))), (2, 1, (.c (.bool false))), (3, 1, (.l 3)), (4, 1, (.c (.fn (.func 180) [] [])))], none⟩,
     ⟨.no, .mapset .str (.l 1) (.c (.str [116, 105, 109, 101])) (.l 4), none⟩,
     ⟨(.l 5), .mkmap, none⟩,
     ⟨.no, .mapset .str (.l 5) (.c (.str [101, 120, 97, 99, 116])) (.c (.int .i64 (1))), none⟩,
     ⟨.no, .mapset .str (.l 5) (.c (.str [99, 101, 110, 116, 105, 109, 101, 116, 114, 101, 115])) (.c (.int .i64 (10))), none⟩,
     ⟨(.l 6), .mv (.l 5), none⟩,
     ⟨(.l 7), .build [.int .i64 (0), .int .i64 (0), .bool false, .nilmap, .nilfn] [(0, 1, (.c (.int .i64 (0)))), (1, 1, (.c (.int .i64 (999999)))), (2, 1, (.c (.bool true))), (3, 1, (.l 6)), (4, 1, (.c (.fn (.func 181) [] [])))], none⟩,
     ⟨.no, .mapset .str (.l 1) (.c (.str [108, 101, 110, 103, 116, 104])) (.l 7), none⟩,
     ⟨(.l 8), .mkmap, none⟩,
     ⟨.no, .mapset .str (.l 8) (.c (.str [101, 120, 97, 99, 116])) (.c (.int .i64 (1))), none⟩,
     ⟨(.l 9), .mv (.l 8), none⟩,
     ⟨(.l 10), .build [.int .i64 (0), .int .i64 (0), .bool false, .nilmap, .nilfn] [(0, 1, (.c (.int .i64 (0)))), (1, 1, (.c (.int .i64 (99999)))), (2, 1, (.c (.bool true))), (3, 1, (.l 9)), (4, 1, (.c (.fn (.func 182) [] [])))], none⟩,
     ⟨.no, .mapset .str (.l 1) (.c (.str [112, 111, 105, 110, 116, 115])) (.l 10), none⟩,
     ⟨(.l 11), .mv (.l 1), none⟩,
     ⟨(.p 0), .mv (.l 11), none⟩])
   (.ret))
theorem ft113 : FT 113 = some ⟨12, [0], [.var (.p 0)], b113⟩ := by kernel_rfl

/-- stadion/mark.isReason -/
def b112 : ICode :=
 .seq (.region [⟨(.p 1), .mv (.c (.bool false)), none⟩])
  (.seq (.region [⟨(.l 3), .bslice 9 4 1 [.str []] [(0, 1, (.c (.str [68, 78, 83]))), (1, 1, (.c (.str [68, 78, 70]))), (2, 1, (.c (.str [68, 81]))), (3, 1, (.c (.str [78, 77])))], none⟩,
     ⟨(.l 4), .mv (.p 0), none⟩,
     ⟨(.l 5), .call (.c (.fn (.func 116) [] [])) [(.l 3), (.l 4)], none⟩,
     ⟨(.p 1), .mv (.l 5), none⟩])
   (.ret))
theorem ft112 : FT 112 = some ⟨6, [0, 2], [.var (.p 1)], b112⟩ := by kernel_rfl

/-- stadion/mark.worth -/
def b184 : ICode :=
 .seq (.region [⟨(.p 1), .box 49 3 (.p 0), none⟩,
    ⟨(.p 2), .mv (.c (.int .i64 (0))), none⟩])
  (.seq (.draw [(⟨(.l 6), .call (.c (.fn (.func 113) [] [])) [], none⟩, []),
     (⟨(.l 7), .faddr 0 (.p 1), none⟩, [0]),
     (⟨(.l 8), .load 1 false (.l 7), none⟩, [0]),
     (⟨(.l 9), .lookup .str (.agg [.int .i64 (0), .int .i64 (0), .bool false, .nilmap, .nilfn]) (.l 6) (.l 8) true, none⟩, []),
     (⟨(.l 5), .mv (.l 9), none⟩, []),
     (⟨(.l 10), .extract 0 (.l 5), none⟩, []),
     (⟨(.l 11), .extract 1 (.l 5), none⟩, [5]),
     (⟨(.p 3), .alloc 141 [.int .i64 (0), .int .i64 (0), .bool false, .nilmap, .nilfn], none⟩, [0, 1, 2, 3, 4, 5, 6]),
     (⟨.no, .store 5 (.p 3) (.l 10), none⟩, [6]),
     (⟨(.p 4), .mv (.l 11), none⟩, [])])
   (.seq (.block 0
     (.seq (.region [⟨(.l 13), .mv (.p 4), none⟩,
        ⟨(.l 14), .un .not (.l 13), none⟩,
        ⟨(.l 12), .mv (.l 14), none⟩])
      (.cond (.l 12)
       (.seq (.region [⟨(.p 2), .mv (.c (.int .i64 (-864000000))), none⟩])
        (.ret))
       (.seq (.region [⟨(.l 16), .faddr 2 (.p 3), none⟩,
          ⟨(.l 17), .load 1 false (.l 16), none⟩,
          ⟨(.l 15), .mv (.l 17), none⟩])
        (.cond (.l 15)
         (.seq (.region [⟨(.l 18), .faddr 1 (.p 1), none⟩,
            ⟨(.l 19), .load 1 false (.l 18), none⟩,
            ⟨(.p 2), .mv (.l 19), none⟩])
          (.ret))
         (.skip))))))
    (.seq (.region [⟨(.l 20), .faddr 1 (.p 1), none⟩,
       ⟨(.l 21), .load 1 false (.l 20), none⟩,
       ⟨(.l 22), .un .neg (.l 21), none⟩,
       ⟨(.p 2), .mv (.l 22), none⟩])
     (.ret))))
theorem ft184 : FT 184 = some ⟨23, [0, 1, 2, 3, 4], [.var (.p 2)], b184⟩ := by kernel_rfl

/-- stadion/mark.compare -/
def b115 : ICode :=
 .seq (.region [⟨(.p 2), .box 49 3 (.p 0), none⟩,
    ⟨(.p 3), .box 49 3 (.p 1), none⟩,
    ⟨(.p 4), .mv (.c (.int .i64 (0))), none⟩])
  (.seq (.draw [(⟨(.l 7), .load 3 true (.p 2), none⟩, []),
     (⟨(.l 8), .call (.c (.fn (.func 184) [] [])) [(.l 7)], none⟩, []),
     (⟨(.l 9), .load 3 true (.p 3), none⟩, [0, 1]),
     (⟨(.l 10), .call (.c (.fn (.func 184) [] [])) [(.l 9)], none⟩, []),
     (⟨(.p 5), .mv (.l 8), none⟩, []),
     (⟨(.p 6), .mv (.l 10), none⟩, [])])
   (.seq (.block 0
     (.seq (.region [⟨(.l 12), .mv (.p 5), none⟩,
        ⟨(.l 13), .mv (.p 6), none⟩,
        ⟨(.l 14), .bin .gtr (.l 12) (.l 13), none⟩,
        ⟨(.l 11), .mv (.l 14), none⟩])
      (.cond (.l 11)
       (.seq (.region [⟨(.p 4), .mv (.c (.int .i64 (-1))), none⟩])
        (.ret))
       (.seq (.region [⟨(.l 16), .mv (.p 5), none⟩,
          ⟨(.l 17), .mv (.p 6), none⟩,
          ⟨(.l 18), .bin .lss (.l 16) (.l 17), none⟩,
          ⟨(.l 15), .mv (.l 18), none⟩])
        (.cond (.l 15)
         (.seq (.region [⟨(.p 4), .mv (.c (.int .i64 (1))), none⟩])
          (.ret))
         (.skip))))))
    (.seq (.region [⟨(.p 4), .mv (.c (.int .i64 (0))), none⟩])
     (.ret))))
theorem ft115 : FT 115 = some ⟨19, [0, 1, 2, 3, 4, 5, 6], [.var (.p 4)], b115⟩ := by kernel_rfl

/-- stadion/mark.differ -/
def b114 : ICode :=
 .seq (.region [⟨(.p 2), .box 49 3 (.p 0), none⟩,
    ⟨(.p 3), .box 49 3 (.p 1), none⟩,
    ⟨(.p 4), .mv (.c (.bool false)), none⟩])
  (.seq (.region [⟨(.l 5), .faddr 0 (.p 2), none⟩,
     ⟨(.l 6), .load 1 false (.l 5), none⟩,
     ⟨(.l 7), .faddr 0 (.p 3), none⟩,
     ⟨(.l 8), .load 1 false (.l 7), none⟩,
     ⟨(.l 9), .bin .neq (.l 6) (.l 8), none⟩,
     ⟨(.l 10), .mv (.l 9), none⟩,
     ⟨(.l 11), .faddr 0 (.p 2), some ((.l 10), true)⟩,
     ⟨(.l 12), .load 1 false (.l 11), some ((.l 10), true)⟩,
     ⟨(.l 13), .bin .neq (.l 12) (.c (.str [110, 111, 110, 101])), some ((.l 10), true)⟩,
     ⟨(.l 14), .pick (.l 10) (.l 13) (.c (.bool false)), none⟩,
     ⟨(.l 15), .mv (.l 14), none⟩,
     ⟨(.l 16), .faddr 0 (.p 3), some ((.l 15), true)⟩,
     ⟨(.l 17), .load 1 false (.l 16), some ((.l 15), true)⟩,
     ⟨(.l 18), .bin .neq (.l 17) (.c (.str [110, 111, 110, 101])), some ((.l 15), true)⟩,
     ⟨(.l 19), .pick (.l 15) (.l 18) (.c (.bool false)), none⟩,
     ⟨(.p 4), .mv (.l 19), none⟩])
   (.ret))
theorem ft114 : FT 114 = some ⟨20, [0, 1, 2, 3, 4], [.var (.p 4)], b114⟩ := by kernel_rfl

/-- stadion/mark.Compare -/
def b37 : ICode :=
 .seq (.region [⟨(.p 2), .box 49 3 (.p 0), none⟩,
    ⟨(.p 3), .box 49 3 (.p 1), none⟩,
    ⟨(.p 4), .mv (.c (.int .i64 (0))), none⟩,
    ⟨(.p 5), .mv (.c (.int .i64 (0))), none⟩])
  (.seq (.seq (.draw [(⟨(.l 7), .load 3 true (.p 2), none⟩, []),
      (⟨(.l 8), .call (.c (.fn (.func 36) [] [])) [(.l 7)], none⟩, []),
      (⟨(.l 9), .load 3 true (.p 3), none⟩, [0, 1]),
      (⟨(.l 10), .call (.c (.fn (.func 36) [] [])) [(.l 9)], none⟩, []),
      (⟨(.l 11), .load 3 true (.p 2), none⟩, [0, 1, 2, 3]),
      (⟨(.l 12), .load 3 true (.p 3), none⟩, [0, 1, 2, 3, 4]),
      (⟨(.l 13), .call (.c (.fn (.func 114) [] [])) [(.l 11), (.l 12)], none⟩, []),
      (⟨(.l 14), .call (.c (.fn (.func 97) [] [])) [(.l 13), (.c (.int .i64 (13)))], none⟩, []),
      (⟨(.l 15), .bslice 25 3 1 [.int .i64 (0)] [(0, 1, (.l 8)), (1, 1, (.l 10)), (2, 1, (.l 14))], none⟩, []),
      (⟨(.l 16), .call (.c (.fn (.func 96) [] [])) [(.l 15)], none⟩, []),
      (⟨(.p 6), .mv (.l 16), none⟩, [])])
    (.seq (.region [⟨(.l 17), .mv (.p 6), none⟩,
       ⟨(.l 18), .bin .neq (.l 17) (.c (.int .i64 (0))), none⟩])
     (.cond (.l 18)
      (.seq (.region [⟨(.l 19), .mv (.p 6), none⟩,
         ⟨(.p 4), .mv (.c (.int .i64 (0))), none⟩,
         ⟨(.p 5), .mv (.l 19), none⟩])
       (.ret))
      (.skip))))
   (.seq (.region [⟨(.l 20), .load 3 true (.p 2), none⟩,
      ⟨(.l 21), .load 3 true (.p 3), none⟩,
      ⟨(.l 22), .call (.c (.fn (.func 115) [] [])) [(.l 20), (.l 21)], none⟩,
      ⟨(.p 4), .mv (.l 22), none⟩,
      ⟨(.p 5), .mv (.c (.int .i64 (0))), none⟩])
    (.ret)))
theorem ft37 : FT 37 = some ⟨23, [0, 1, 2, 3, 4, 5, 6], [.var (.p 4), .var (.p 5)], b37⟩ := by kernel_rfl

/-- stadion/stadionref01.IsReason -/
def b109 : ICode :=
 .seq (.region [⟨(.p 1), .mv (.c (.bool false)), none⟩])
  (.seq (.region [⟨(.l 3), .mv (.p 0), none⟩,
     ⟨(.l 4), .bin .eql (.l 3) (.c (.str [68, 78, 83])), none⟩,
     ⟨(.l 5), .mv (.l 4), none⟩,
     ⟨(.l 6), .mv (.p 0), some ((.l 5), false)⟩,
     ⟨(.l 7), .bin .eql (.l 6) (.c (.str [68, 78, 70])), some ((.l 5), false)⟩,
     ⟨(.l 8), .pick (.l 5) (.c (.bool true)) (.l 7), none⟩,
     ⟨(.l 9), .mv (.l 8), none⟩,
     ⟨(.l 10), .mv (.p 0), some ((.l 9), false)⟩,
     ⟨(.l 11), .bin .eql (.l 10) (.c (.str [68, 81])), some ((.l 9), false)⟩,
     ⟨(.l 12), .pick (.l 9) (.c (.bool true)) (.l 11), none⟩,
     ⟨(.l 13), .mv (.l 12), none⟩,
     ⟨(.l 14), .mv (.p 0), some ((.l 13), false)⟩,
     ⟨(.l 15), .bin .eql (.l 14) (.c (.str [78, 77])), some ((.l 13), false)⟩,
     ⟨(.l 16), .pick (.l 13) (.c (.bool true)) (.l 15), none⟩,
     ⟨(.p 1), .mv (.l 16), none⟩])
   (.ret))
theorem ft109 : FT 109 = some ⟨17, [0, 2], [.var (.p 1)], b109⟩ := by kernel_rfl

/-- stadion/stadionref01.least -/
def b110 : ICode :=
 .seq (.region [⟨(.p 1), .mv (.c (.int .i64 (0))), none⟩])
  (.seq (.seq (.region [⟨(.l 3), .mv (.p 0), none⟩,
      ⟨(.l 4), .bin .eql (.l 3) (.c (.str [116, 105, 109, 101])), none⟩])
    (.cond (.l 4)
     (.seq (.region [⟨(.p 1), .mv (.c (.int .i64 (1))), none⟩])
      (.ret))
     (.skip)))
   (.seq (.region [⟨(.p 1), .mv (.c (.int .i64 (0))), none⟩])
    (.ret)))
theorem ft110 : FT 110 = some ⟨5, [0, 2], [.var (.p 1)], b110⟩ := by kernel_rfl

/-- stadion/stadionref01.most -/
def b111 : ICode :=
 .seq (.region [⟨(.p 1), .mv (.c (.int .i64 (0))), none⟩])
  (.seq (.seq (.region [⟨(.p 2), .mv (.p 0), none⟩])
    (.block 0
     (.seq (.region [⟨(.l 5), .bin .eql (.p 2) (.c (.str [116, 105, 109, 101])), none⟩,
        ⟨(.l 4), .mv (.l 5), none⟩])
      (.cond (.l 4)
       (.seq (.region [⟨(.p 1), .mv (.c (.int .i64 (863999999))), none⟩])
        (.ret))
       (.seq (.region [⟨(.l 7), .bin .eql (.p 2) (.c (.str [108, 101, 110, 103, 116, 104])), none⟩,
          ⟨(.l 6), .mv (.l 7), none⟩])
        (.cond (.l 6)
         (.seq (.region [⟨(.p 1), .mv (.c (.int .i64 (999999))), none⟩])
          (.ret))
         (.skip)))))))
   (.seq (.region [⟨(.p 1), .mv (.c (.int .i64 (99999))), none⟩])
    (.ret)))
theorem ft111 : FT 111 = some ⟨8, [0, 2, 3], [.var (.p 1)], b111⟩ := by kernel_rfl

/-- stadion/stadionref01.CheckMark -/
def b35 : ICode :=
 .seq (.region [⟨(.p 1), .box 49 3 (.p 0), none⟩,
    ⟨(.p 2), .mv (.c (.int .i64 (0))), none⟩])
  (.seq (.seq (.region [⟨(.l 3), .faddr 0 (.p 1), none⟩,
      ⟨(.p 3), .load 1 false (.l 3), none⟩])
    (.block 0
     (.seq (.region [⟨(.l 6), .bin .eql (.p 3) (.c (.str [110, 111, 110, 101])), none⟩,
        ⟨(.l 5), .mv (.l 6), none⟩])
      (.cond (.l 5)
       (.seq (.seq (.region [⟨(.l 7), .faddr 2 (.p 1), none⟩,
           ⟨(.l 8), .load 1 false (.l 7), none⟩,
           ⟨(.l 9), .call (.c (.fn (.func 109) [] [])) [(.l 8)], none⟩,
           ⟨(.l 10), .un .not (.l 9), none⟩])
         (.cond (.l 10)
          (.seq (.region [⟨(.p 2), .mv (.c (.int .i64 (1))), none⟩])
           (.ret))
          (.skip)))
        (.seq (.seq (.region [⟨(.l 11), .faddr 1 (.p 1), none⟩,
            ⟨(.l 12), .load 1 false (.l 11), none⟩,
            ⟨(.l 13), .bin .neq (.l 12) (.c (.int .i64 (0))), none⟩])
          (.cond (.l 13)
           (.seq (.region [⟨(.p 2), .mv (.c (.int .i64 (3))), none⟩])
            (.ret))
           (.skip)))
         (.seq (.region [⟨(.p 2), .mv (.c (.int .i64 (0))), none⟩])
          (.ret))))
       (.seq (.seq (.region [⟨(.l 15), .bin .eql (.p 3) (.c (.str [116, 105, 109, 101])), none⟩,
           ⟨(.p 4), .mv (.l 15), none⟩])
         (.cond (.p 4)
          (.skip)
          (.seq (.region [⟨(.l 16), .bin .eql (.p 3) (.c (.str [108, 101, 110, 103, 116, 104])), none⟩,
             ⟨(.p 4), .mv (.l 16), none⟩])
           (.cond (.p 4)
            (.skip)
            (.region [⟨(.l 17), .bin .eql (.p 3) (.c (.str [112, 111, 105, 110, 116, 115])), none⟩,
              ⟨(.p 4), .mv (.l 17), none⟩])))))
        (.cond (.p 4)
         (.seq (.seq (.region [⟨(.l 18), .faddr 2 (.p 1), none⟩,
             ⟨(.l 19), .load 1 false (.l 18), none⟩,
             ⟨(.l 20), .bin .neq (.l 19) (.c (.str [])), none⟩])
           (.cond (.l 20)
            (.seq (.region [⟨(.p 2), .mv (.c (.int .i64 (1))), none⟩])
             (.ret))
            (.skip)))
          (.seq (.seq (.draw [(⟨(.l 21), .faddr 1 (.p 1), none⟩, []),
              (⟨(.l 22), .load 1 false (.l 21), none⟩, []),
              (⟨(.l 23), .faddr 0 (.p 1), none⟩, [0, 1]),
              (⟨(.l 24), .load 1 false (.l 23), none⟩, [0, 1]),
              (⟨(.l 25), .call (.c (.fn (.func 110) [] [])) [(.l 24)], none⟩, [0, 1]),
              (⟨(.l 26), .bin .lss (.l 22) (.l 25), none⟩, []),
              (⟨(.l 27), .mv (.l 26), none⟩, []),
              (⟨(.l 28), .faddr 1 (.p 1), some ((.l 27), false)⟩, []),
              (⟨(.l 29), .load 1 false (.l 28), some ((.l 27), false)⟩, []),
              (⟨(.l 30), .faddr 0 (.p 1), some ((.l 27), false)⟩, [7, 8]),
              (⟨(.l 31), .load 1 false (.l 30), some ((.l 27), false)⟩, [7, 8]),
              (⟨(.l 32), .call (.c (.fn (.func 111) [] [])) [(.l 31)], some ((.l 27), false)⟩, [7, 8]),
              (⟨(.l 33), .bin .gtr (.l 29) (.l 32), some ((.l 27), false)⟩, []),
              (⟨(.l 34), .pick (.l 27) (.c (.bool true)) (.l 33), none⟩, [])])
            (.cond (.l 34)
             (.seq (.region [⟨(.p 2), .mv (.c (.int .i64 (3))), none⟩])
              (.ret))
             (.skip)))
           (.seq (.region [⟨(.p 2), .mv (.c (.int .i64 (0))), none⟩])
            (.ret))))
         (.skip)))))))
   (.seq (.region [⟨(.p 2), .mv (.c (.int .i64 (13))), none⟩])
    (.ret)))
theorem ft35 : FT 35 = some ⟨35, [0, 1, 2, 4, 14], [.var (.p 2)], b35⟩ := by kernel_rfl

/-- stadion/stadionref01.Brief -/
def b34 : ICode :=
 .seq (.region [⟨(.p 1), .box 49 3 (.p 0), none⟩,
    ⟨(.p 2), .mv (.c (.bool false)), none⟩])
  (.seq (.region [⟨(.l 3), .faddr 0 (.p 1), none⟩,
     ⟨(.l 4), .load 1 false (.l 3), none⟩,
     ⟨(.l 5), .len .str (.l 4), none⟩,
     ⟨(.l 6), .bin .leq (.l 5) (.c (.int .i64 (40))), none⟩,
     ⟨(.l 7), .mv (.l 6), none⟩,
     ⟨(.l 8), .faddr 2 (.p 1), some ((.l 7), true)⟩,
     ⟨(.l 9), .load 1 false (.l 8), some ((.l 7), true)⟩,
     ⟨(.l 10), .len .str (.l 9), some ((.l 7), true)⟩,
     ⟨(.l 11), .bin .leq (.l 10) (.c (.int .i64 (40))), some ((.l 7), true)⟩,
     ⟨(.l 12), .pick (.l 7) (.l 11) (.c (.bool false)), none⟩,
     ⟨(.p 2), .mv (.l 12), none⟩])
   (.ret))
/-- slices.Contains[[]string,string] -/
def b116 : ICode :=
 .seq (.region [⟨(.p 2), .mv (.c (.bool false)), none⟩])
  (.seq (.region [⟨(.l 5), .mv (.p 0), none⟩,
     ⟨(.l 6), .mv (.p 1), none⟩,
     ⟨(.l 7), .call (.c (.fn (.func 185) [] [])) [(.l 5), (.l 6)], none⟩,
     ⟨(.l 8), .bin .geq (.l 7) (.c (.int .i64 (0))), none⟩,
     ⟨(.p 2), .mv (.l 8), none⟩])
   (.ret))
theorem ft116 : FT 116 = some ⟨9, [0, 1, 4], [.var (.p 2)], b116⟩ := by kernel_rfl

def b185_0 : ICode :=
 .seq (.region [⟨(.l 9), .bin .lss (.p 5) (.p 4), none⟩])
  (.seq (.cond (.l 9)
    (.skip)
    (.exit 0))
   (.seq (.block 1
     (.seq (.region [⟨(.l 10), .mv (.p 5), none⟩,
        ⟨(.p 3), .mv (.l 10), none⟩])
      (.seq (.region [⟨(.l 11), .mv (.p 1), none⟩,
         ⟨(.l 12), .mv (.p 0), none⟩,
         ⟨(.l 13), .mv (.p 3), none⟩,
         ⟨(.l 14), .iaddr none 1 (.l 12) (.l 13), none⟩,
         ⟨(.l 15), .load 1 false (.l 14), none⟩,
         ⟨(.l 16), .bin .eql (.l 11) (.l 15), none⟩])
       (.cond (.l 16)
        (.seq (.region [⟨(.l 17), .mv (.p 3), none⟩,
           ⟨(.p 2), .mv (.l 17), none⟩])
         (.ret))
        (.skip)))))
    (.region [⟨(.l 18), .bin .add (.p 5) (.c (.int .i64 (1))), none⟩,
      ⟨(.p 5), .mv (.l 18), none⟩])))
/-- slices.Index[[]string,string] -/
def b185 : ICode :=
 .seq (.region [⟨(.p 2), .mv (.c (.int .i64 (0))), none⟩])
  (.seq (.seq (.region [⟨(.l 6), .mv (.p 0), none⟩,
      ⟨(.p 4), .len .sl (.l 6), none⟩,
      ⟨(.p 5), .mv (.c (.int .i64 (0))), none⟩])
    (.block 0
     (.loop b185_0)))
   (.seq (.region [⟨(.p 2), .mv (.c (.int .i64 (-1))), none⟩])
    (.ret)))
theorem ft185 : FT 185 = some ⟨19, [0, 1, 4, 5, 7, 8], [.var (.p 2)], b185⟩ := by kernel_rfl

end Go.Ab.Ch1


/-
  Own work: marks of chapter 1: the contracts of the checks, of the order and of rounding.
-/
namespace Go.Ab.Ch1
variable {inv : InvF} {F : FuncId → Option IFunc}

abbrev sNone : List UInt8 := [110, 111, 110, 101]
abbrev sTime : List UInt8 := [116, 105, 109, 101]
abbrev sLength : List UInt8 := [108, 101, 110, 103, 116, 104]
abbrev sPoints : List UInt8 := [112, 111, 105, 110, 116, 115]
abbrev sExact : List UInt8 := [101, 120, 97, 99, 116]
abbrev sHund : List UInt8 := [104, 117, 110, 100, 114, 101, 100, 116, 104, 115]
abbrev sTenths : List UInt8 := [116, 101, 110, 116, 104, 115]
abbrev sCent : List UInt8 := [99, 101, 110, 116, 105, 109, 101, 116, 114, 101, 115]
abbrev mkM (k : List UInt8) (v : Int) (r : List UInt8) : AV := .agg [.str k, .int .i64 v, .str r]

def indexOf (x : List UInt8) : List (List UInt8) → Nat → Int
  | [], _ => -1
  | a :: l, i => if x = a then i else indexOf x l (i + 1)
theorem indexOf_drop {x : List UInt8} {l : List (List UInt8)} {i : Nat} (h : i < l.length) : indexOf x (l.drop i) i = if x = l[i]! then (i : Int) else indexOf x (l.drop (i + 1)) (i + 1) := by
  rw [List.drop_eq_getElem_cons h, getElem!_pos l i h, indexOf]
theorem indexOf_mem {x : List UInt8} : ∀ (l : List (List UInt8)) (i : Nat), decide (0 ≤ indexOf x l i) = decide (x ∈ l)
  | [], i => by simp [indexOf]
  | a :: l, i => by
    rw [indexOf]
    split
    · rename_i h; subst h; simp
    · rename_i h; rw [indexOf_mem l (i + 1)]; simp [h]
theorem body185 {T : List (Nat × Spec)} (l : List (List UInt8)) (x : List UInt8) (cap : Option Nat) (hl : l.length < 4611686018427387904) (hp : Heap) (df : List Nat) {Q : Ex → StW → Prop} : ∀ (r i : Nat), i + r = l.length → ∀ (a2 a3 : AV) (lo : List (Nat × AV)) (wr : List Nat),
    (indexOf x (l.drop i) i = -1 → ∀ a3 lo wr, Q (.exit 0) ⟨⟨[.vs (strs l) l.length cap, .str x, a2, a3, .int .i64 l.length, .int .i64 l.length], lo, hp, df⟩, wr⟩) →
    (∀ a3 a5 lo wr, Q .ret ⟨⟨[.vs (strs l) l.length cap, .str x, .int .i64 (indexOf x (l.drop i) i), a3, .int .i64 l.length, a5], lo, hp, df⟩, wr⟩) →
    W (mk0 T inv F) (.loop b185_0) ⟨⟨[.vs (strs l) l.length cap, .str x, a2, a3, .int .i64 l.length, .int .i64 i], lo, hp, df⟩, wr⟩ Q
  | 0, i, hi, a2, a3, lo, wr, h1, h2 => by
    obtain rfl : i = l.length := by omega
    refine W.loop ?_
    unfold b185_0
    repeat' first | apply W.seq | apply SQn | apply W.region | apply WO.nil | apply W.block | apply W.ret | apply W.exit | apply W.skip | apply SQr | apply SQe | apply BQn | apply BQr | apply BQe | (apply BQo; exact rfl) | apply LQe | apply LQr | (apply W.condT; exact rfl) | (apply W.condF; exact rfl) | (apply W.cond; exact rfl; all_goals intro _) | (apply WO.lss; exact rfl; exact rfl; all_goals first | (intro _; exfalso; omega) | intro _) | (apply WO.eql; exact rfl; exact rfl; all_goals first | (intro _; exfalso; omega) | intro _) | (apply WO.add; exact rfl; exact rfl; omega) | (apply WO.iav; exact rfl; exact rfl; omega) | (apply WO.ias; exact rfl; exact rfl; omega) | (apply WO.lda; exact rfl; exact fun _ => rfl; (first | omega | (simp only [List.length_set]; omega) | (simp; omega)); decide; exact rfl; case ia => infer_instance) | (apply WO.lsa; exact rfl; (first | exact rfl | assumption | exact at_new | (apply at_old; assumption) | (apply at_put; first | assumption | (simp only [put_length]; assumption))); exact fun _ => rfl; (first | omega | (simp only [List.length_set]; omega) | (simp; omega)); decide; exact rfl; case ia => infer_instance) | (apply WO.seql; exact rfl; exact rfl; all_goals first | (intro h; exact absurd h (by decide)) | (intro h; exact absurd rfl h) | (intro h; contradiction) | intro _) | (apply WO.hlv; exact rfl; exact rfl; exact rfl) | (apply WO.hpv; exact rfl; exact rfl; exact rfl) | (apply WO.hnv; exact rfl; exact rfl; exact rfl) | (apply WO.pl; exact rfl; exact rfl) | (apply WO.pp; exact rfl; exact rfl)
    exact h1 (by simp [indexOf]) _ _ _
  | r + 1, i, hi, a2, a3, lo, wr, h1, h2 => by
    have e := indexOf_drop (x := x) (l := l) (i := (i : Int).toNat) (by omega)
    rw [Int.toNat_natCast] at e
    refine W.loop ?_
    unfold b185_0
    repeat' first | apply W.seq | apply SQn | apply W.region | apply WO.nil | apply W.block | apply W.ret | apply W.exit | apply W.skip | apply SQr | apply SQe | apply BQn | apply BQr | apply BQe | (apply BQo; exact rfl) | apply LQe | apply LQr | (apply W.condT; exact rfl) | (apply W.condF; exact rfl) | (apply W.cond; exact rfl; all_goals intro _) | (apply WO.lss; exact rfl; exact rfl; all_goals first | (intro _; exfalso; omega) | intro _) | (apply WO.eql; exact rfl; exact rfl; all_goals first | (intro _; exfalso; omega) | intro _) | (apply WO.add; exact rfl; exact rfl; omega) | (apply WO.iav; exact rfl; exact rfl; omega) | (apply WO.ias; exact rfl; exact rfl; omega) | (apply WO.lda; exact rfl; exact fun _ => rfl; (first | omega | (simp only [List.length_set]; omega) | (simp; omega)); decide; exact rfl; case ia => infer_instance) | (apply WO.lsa; exact rfl; (first | exact rfl | assumption | exact at_new | (apply at_old; assumption) | (apply at_put; first | assumption | (simp only [put_length]; assumption))); exact fun _ => rfl; (first | omega | (simp only [List.length_set]; omega) | (simp; omega)); decide; exact rfl; case ia => infer_instance) | (apply WO.seql; exact rfl; exact rfl; all_goals first | (intro h; exact absurd h (by decide)) | (intro h; exact absurd rfl h) | (intro h; contradiction) | intro _) | (apply WO.hlv; exact rfl; exact rfl; exact rfl) | (apply WO.hpv; exact rfl; exact rfl; exact rfl) | (apply WO.hnv; exact rfl; exact rfl; exact rfl) | (apply WO.pl; exact rfl; exact rfl) | (apply WO.pp; exact rfl; exact rfl)
    · rename_i he
      rw [Int.toNat_natCast] at he
      rw [if_pos he] at e
      rw [e] at h2
      exact h2 _ _ _ _
    · rename_i he
      rw [Int.toNat_natCast] at he
      rw [if_neg he] at e
      rw [e] at h1 h2
      exact LQn (body185 l x cap hl hp df r (i + 1) (by omega) _ _ _ _ h1 h2)
theorem w185 {T : List (Nat × Spec)} (hft : F = FT) (l : List (List UInt8)) (x : List UInt8) (cap : Option Nat) (hl : l.length < 4611686018427387904) : Run (mk0 T inv F) 185 [.vs (strs l) l.length cap, .str x] [] ⟨.int .i64 (indexOf x l 0), [], []⟩ := by
  refine run_of_W (show F 185 = _ from by rw [hft]; exact ft185) (by simp) ?_
  unfold b185
  simp only [List.map_cons, List.map_nil, List.getElem?_cons_zero, List.getElem?_cons_succ, List.getElem?_nil, Option.getD_some, Option.getD_none]
  repeat' first | apply W.seq | apply SQn | apply W.region | apply WO.nil | apply W.block | apply W.ret | apply W.exit | apply W.skip | apply SQr | apply SQe | apply BQn | apply BQr | apply BQe | (apply BQo; exact rfl) | apply LQe | apply LQr | (apply W.condT; exact rfl) | (apply W.condF; exact rfl) | (apply W.cond; exact rfl; all_goals intro _) | (apply WO.pl; exact rfl; exact rfl) | (apply WO.pp; exact rfl; exact rfl)
  refine body185 l x cap hl _ _ l.length 0 (by omega) _ _ _ _ (fun h a2 lo wr => ?_) (fun a2 a5 lo wr => ?_)
  · repeat' first | apply W.seq | apply SQn | apply W.region | apply WO.nil | apply W.block | apply W.ret | apply W.exit | apply W.skip | apply SQr | apply SQe | apply BQn | apply BQr | apply BQe | (apply BQo; exact rfl) | apply LQe | apply LQr | (apply W.condT; exact rfl) | (apply W.condF; exact rfl) | (apply W.cond; exact rfl; all_goals intro _) | (apply WO.pl; exact rfl; exact rfl) | (apply WO.pp; exact rfl; exact rfl)
    exact ⟨.inr rfl, rfl, _, rfl, by rw [List.drop_zero] at h; rw [h]; rfl, rfl⟩
  · repeat' first | apply W.seq | apply SQn | apply W.region | apply WO.nil | apply W.block | apply W.ret | apply W.exit | apply W.skip | apply SQr | apply SQe | apply BQn | apply BQr | apply BQe | (apply BQo; exact rfl) | apply LQe | apply LQr | (apply W.condT; exact rfl) | (apply W.condF; exact rfl) | (apply W.cond; exact rfl; all_goals intro _) | (apply WO.pl; exact rfl; exact rfl) | (apply WO.pp; exact rfl; exact rfl)
    exact ⟨.inr rfl, rfl, _, rfl, rfl, rfl⟩

def specIndex : Spec := fun
  | [v, .str x], h => match strsAt h v with
    | some l => if l.length < 4611686018427387904 then some ⟨.int .i64 (indexOf x l 0), h, []⟩ else none
    | none => none
  | _, _ => none
def specContains : Spec := fun
  | [v, .str x], h => match strsAt h v with
    | some l => if l.length < 4611686018427387904 then some ⟨.bool (decide (x ∈ l)), h, []⟩ else none
    | none => none
  | _, _ => none
theorem strsAt_vs {h : Heap} {l : List (List UInt8)} {cap : Option Nat} : strsAt h (.vs (strs l) l.length cap) = some l := by
  simp only [strsAt, cellsAt, sliceCells, decStrs_strs, if_true]

theorem w116 {T : List (Nat × Spec)} (hft : F = FT) (l : List (List UInt8)) (x : List UInt8) (cap : Option Nat) (hl : l.length < 4611686018427387904) : Run (mk0 ((185, specIndex) :: T) inv F) 116 [.vs (strs l) l.length cap, .str x] [] ⟨.bool (decide (x ∈ l)), [], []⟩ := by
  have hi : ∀ h, (mk0 ((185, specIndex) :: T) inv F).ext 185 [.vs (strs l) l.length cap, .str x] h = some ⟨.int .i64 (indexOf x l 0), h, []⟩ := fun h => by
    show extS _ _ _ _ = _
    simp only [ext_hd, specIndex, strsAt_vs, if_pos hl]
  refine run_of_W (show F 116 = _ from by rw [hft]; exact ft116) (by simp) ?_
  unfold b116
  simp only [List.map_cons, List.map_nil, List.getElem?_cons_zero, List.getElem?_cons_succ, List.getElem?_nil, Option.getD_some, Option.getD_none]
  have hm := indexOf_mem (x := x) l 0
  repeat' first | apply W.seq | apply SQn | apply W.region | apply WO.nil | apply W.block | apply W.ret | apply W.exit | apply W.skip | apply SQr | apply SQe | apply BQn | apply BQr | apply BQe | (apply BQo; exact rfl) | apply LQe | apply LQr | (apply W.condT; exact rfl) | (apply W.condF; exact rfl) | (apply W.cond; exact rfl; all_goals intro _) | (apply WO.geq; exact rfl; exact rfl; all_goals first | (intro _; exfalso; omega) | intro _) | (apply WO.cll; exact rfl; exact rfl; first | exact hi _) | (apply WO.clb; exact rfl; exact rfl; exact rfl; all_goals first | (intro h; exact absurd h (by decide)) | intro _) | (apply WO.cll; exact rfl; exact rfl; exact rfl) | (apply WO.pl; exact rfl; exact rfl) | (apply WO.pp; exact rfl; exact rfl)
  all_goals refine ⟨.inr rfl, rfl, _, rfl, ?_, rfl⟩
  all_goals rw [← hm]
  · rename_i h; rw [decide_eq_true h]; rfl
  · rename_i h; rw [decide_eq_false (by omega)]; rfl

/-! mark.isReason, mark.kinds. -/
abbrev reasons : List (List UInt8) := [[68, 78, 83], [68, 78, 70], [68, 81], [78, 77]]
def specReason : Spec := fun
  | [.str x], h => some ⟨.bool (decide (x ∈ reasons)), h, []⟩
  | _, _ => none
theorem w112 {T : List (Nat × Spec)} (hft : F = FT) (x : List UInt8) : Run (mk0 ((116, specContains) :: T) inv F) 112 [.str x] [] ⟨.bool (decide (x ∈ reasons)), [], []⟩ := by
  refine run_of_W (show F 112 = _ from by rw [hft]; exact ft112) (by simp) ?_
  unfold b112
  simp only [List.map_cons, List.map_nil, List.getElem?_cons_zero, List.getElem?_cons_succ, List.getElem?_nil, Option.getD_some, Option.getD_none]
  repeat' first | apply W.seq | apply SQn | apply W.region | apply WO.nil | apply W.block | apply W.ret | apply W.exit | apply W.skip | apply SQr | apply SQe | apply BQn | apply BQr | apply BQe | (apply BQo; exact rfl) | apply LQe | apply LQr | (apply W.condT; exact rfl) | (apply W.condF; exact rfl) | (apply W.cond; exact rfl; all_goals intro _) | (apply WO.clb; exact rfl; exact rfl; exact rfl; all_goals first | (intro h; exact absurd h (by decide)) | intro _) | (apply WO.cll; exact rfl; exact rfl; exact rfl) | (apply WO.hlv; exact rfl; exact rfl; exact rfl) | (apply WO.hpv; exact rfl; exact rfl; exact rfl) | (apply WO.hnv; exact rfl; exact rfl; exact rfl) | (apply WO.pl; exact rfl; exact rfl) | (apply WO.pp; exact rfl; exact rfl)
  all_goals (rename_i h; exact ⟨.inr rfl, rfl, _, rfl, by rw [h]; rfl, rfl⟩)
theorem w109 {T : List (Nat × Spec)} (hft : F = FT) (x : List UInt8) : Run (mk0 T inv F) 109 [.str x] [] ⟨.bool (decide (x ∈ reasons)), [], []⟩ := by
  refine run_of_W (show F 109 = _ from by rw [hft]; exact ft109) (by simp) ?_
  unfold b109
  simp only [List.map_cons, List.map_nil, List.getElem?_cons_zero, List.getElem?_cons_succ, List.getElem?_nil, Option.getD_some, Option.getD_none]
  repeat' first | apply W.seq | apply SQn | apply W.region | apply WO.nil | apply W.block | apply W.ret | apply W.exit | apply W.skip | apply SQr | apply SQe | apply BQn | apply BQr | apply BQe | (apply BQo; exact rfl) | apply LQe | apply LQr | (apply W.condT; exact rfl) | (apply W.condF; exact rfl) | (apply W.cond; exact rfl; all_goals intro _) | (apply WO.gT; exact rfl) | (apply WO.gF; exact rfl) | (apply WO.sT; exact rfl) | (apply WO.sF; exact rfl) | (apply WO.sU; exact rfl) | (apply WO.eql; exact rfl; exact rfl; all_goals first | (intro _; exfalso; omega) | intro _) | (apply WO.pkT; exact rfl; exact rfl) | (apply WO.pkF; exact rfl; exact rfl) | (apply WO.seql; exact rfl; exact rfl; all_goals first | (intro h; exact absurd h (by decide)) | (intro h; exact absurd rfl h) | (intro h; contradiction) | intro _) | (apply WO.pl; exact rfl; exact rfl) | (apply WO.pp; exact rfl; exact rfl)
  all_goals exact ⟨.inr rfl, rfl, _, rfl, by simp [tupA, *], rfl⟩

abbrev rTime (N : Nat) : AV := .agg [.int .i64 1, .int .i64 863999999, .bool false, .map (N + 1), .fn (.func 180) [] []]
abbrev rLength (N : Nat) : AV := .agg [.int .i64 0, .int .i64 999999, .bool true, .map (N + 2), .fn (.func 181) [] []]
abbrev rPoints (N : Nat) : AV := .agg [.int .i64 0, .int .i64 99999, .bool true, .map (N + 3), .fn (.func 182) [] []]
abbrev kBlocks (N : Nat) : List Blk := [.map [(.str sTime, rTime N), (.str sLength, rLength N), (.str sPoints, rPoints N)],
  .map [(.str sExact, .int .i64 1), (.str sHund, .int .i64 100), (.str sTenths, .int .i64 1000)], .map [(.str sExact, .int .i64 1), (.str sCent, .int .i64 10)], .map [(.str sExact, .int .i64 1)]]
def specKinds : Spec := fun
  | [], h => some ⟨.map h.length, h ++ (kBlocks h.length).map some, []⟩
  | _, _ => none
theorem w113 {T : List (Nat × Spec)} (hft : F = FT) : Run (mk0 T inv F) 113 [] [] ⟨.map 0, (kBlocks 0).map some, []⟩ := by
  refine run_of_W (show F 113 = _ from by rw [hft]; exact ft113) (by simp) ?_
  unfold b113
  simp only [List.map_cons, List.map_nil, List.getElem?_nil, Option.getD_none]
  repeat' first | apply W.seq | apply SQn | apply W.region | apply WO.nil | apply W.block | apply W.ret | apply W.exit | apply W.skip | apply SQr | apply SQe | apply BQn | apply BQr | apply BQe | (apply BQo; exact rfl) | apply LQe | apply LQr | (apply W.condT; exact rfl) | (apply W.condF; exact rfl) | (apply W.cond; exact rfl; all_goals intro _) | (apply WO.hlv; exact rfl; exact rfl; exact rfl) | (apply WO.hpv; exact rfl; exact rfl; exact rfl) | (apply WO.hnv; exact rfl; exact rfl; exact rfl) | (apply WO.pl; exact rfl; exact rfl) | (apply WO.pp; exact rfl; exact rfl)
  exact ⟨.inr rfl, rfl, _, rfl, rfl, rfl⟩

def kLeast (k : List UInt8) : Int := if k = sTime then 1 else 0
def kMost (k : List UInt8) : Int := if k = sTime then 863999999 else if k = sLength then 999999 else 99999
def known (k : List UInt8) : Prop := k = sTime ∨ k = sLength ∨ k = sPoints
instance (k : List UInt8) : Decidable (known k) := by unfold known; infer_instance
/-- The first error of a mark. -/
def chk (k : List UInt8) (v : Int) (r : List UInt8) : Int :=
  if k = sNone then (if r ∉ reasons then 1 else if v ≠ 0 then 3 else 0) else if ¬ known k then 13 else if r ≠ [] then 1 else if v < kLeast k ∨ kMost k < v then 3 else 0

theorem kind_cases (k : List UInt8) : k = sNone ∨ k = sTime ∨ k = sLength ∨ k = sPoints ∨ (k ≠ sNone ∧ ¬ known k) := by
  unfold known
  by_cases h1 : k = sNone
  · exact .inl h1
  by_cases h2 : k = sTime
  · exact .inr (.inl h2)
  by_cases h3 : k = sLength
  · exact .inr (.inr (.inl h3))
  by_cases h4 : k = sPoints
  · exact .inr (.inr (.inr (.inl h4)))
  exact .inr (.inr (.inr (.inr ⟨h1, by simp [h2, h3, h4]⟩)))

def TChk : List (Nat × Spec) := [(113, specKinds), (112, specReason), (97, specWhen), (96, specFirst), (95, fun
  | [.int .i64 x, .int .i64 lo, .int .i64 hi], h => some ⟨.bool (decide (x < lo) || decide (hi < x)), h, []⟩
  | _, _ => none)]
set_option maxHeartbeats 4000000 in
theorem w36 (hft : F = FT) (k : List UInt8) (v : Int) (r : List UInt8) : Run (mk0 TChk inv F) 36 [mkM k v r] [] ⟨.int .i64 (chk k v r), [], []⟩ := by
  refine run_of_W (show F 36 = _ from by rw [hft]; exact ft36) (by simp) ?_
  unfold b36
  simp only [List.map_cons, List.map_nil, List.getElem?_cons_zero, List.getElem?_cons_succ, List.getElem?_nil, Option.getD_some, Option.getD_none]
  rcases kind_cases k with rfl | rfl | rfl | rfl | ⟨h1, h2⟩
  · repeat' first | apply W.seq | apply SQn | apply W.region | apply WO.nil | apply W.block | apply W.ret | apply W.exit | apply W.skip | apply SQr | apply SQe | apply BQn | apply BQr | apply BQe | (apply BQo; exact rfl) | apply LQe | apply LQr | (apply W.drawro; exact rfl) | apply W.draw | apply WD.nil | (apply WD.gT; exact rfl) | (apply WD.gF; exact rfl) | (apply WD.sT; exact rfl) | (apply WD.sF; exact rfl) | (apply WD.sU; exact rfl) | (apply WD.pure1; exact rfl) | (apply WD.load1; exact rfl; exact rfl; exact rfl) | (apply WD.store1; exact rfl; exact rfl; exact rfl) | (apply WD.new1; exact rfl) | (apply WD.look1; exact rfl; exact rfl) | (apply WD.clb; exact rfl; exact rfl; exact rfl; exact rfl; all_goals first | (intro h; exact absurd h (by decide)) | intro _) | (apply WD.cl0; exact rfl; exact rfl; exact rfl; exact rfl) | (apply WD.cl1; exact rfl; exact rfl; exact rfl; exact rfl) | (apply W.condT; exact rfl) | (apply W.condF; exact rfl) | (apply W.cond; exact rfl; all_goals intro _) | (apply WO.eql; exact rfl; exact rfl; all_goals first | (intro _; exfalso; omega) | intro _) | (apply WO.neq; exact rfl; exact rfl; all_goals first | (intro _; exfalso; omega) | intro _) | (apply WO.seql; exact rfl; exact rfl; all_goals first | (intro h; exact absurd h (by decide)) | (intro h; exact absurd rfl h) | (intro h; contradiction) | intro _) | (apply WO.sneq; exact rfl; exact rfl; all_goals first | (intro h; exact absurd h (by decide)) | (intro h; exact absurd rfl h) | (intro h; contradiction) | intro _) | (apply WO.clb; exact rfl; exact rfl; exact rfl; all_goals first | (intro h; exact absurd h (by decide)) | intro _) | (apply WO.cll; exact rfl; exact rfl; exact rfl) | (apply WO.hlv; exact rfl; exact rfl; exact rfl) | (apply WO.hpv; exact rfl; exact rfl; exact rfl) | (apply WO.hnv; exact rfl; exact rfl; exact rfl) | (apply WO.pl; exact rfl; exact rfl) | (apply WO.pp; exact rfl; exact rfl)
    all_goals refine ⟨.inr rfl, rfl, _, rfl, congrArg (AV.int .i64) ?_, rfl⟩
    all_goals (by_cases hr : r ∈ reasons <;> simp_all [firstNZ, chk])
  · repeat' first | apply W.seq | apply SQn | apply W.region | apply WO.nil | apply W.block | apply W.ret | apply W.exit | apply W.skip | apply SQr | apply SQe | apply BQn | apply BQr | apply BQe | (apply BQo; exact rfl) | apply LQe | apply LQr | (apply W.drawro; exact rfl) | apply W.draw | apply WD.nil | (apply WD.gT; exact rfl) | (apply WD.gF; exact rfl) | (apply WD.sT; exact rfl) | (apply WD.sF; exact rfl) | (apply WD.sU; exact rfl) | (apply WD.pure1; exact rfl) | (apply WD.load1; exact rfl; exact rfl; exact rfl) | (apply WD.store1; exact rfl; exact rfl; exact rfl) | (apply WD.new1; exact rfl) | (apply WD.look1; exact rfl; exact rfl) | (apply WD.clb; exact rfl; exact rfl; exact rfl; exact rfl; all_goals first | (intro h; exact absurd h (by decide)) | intro _) | (apply WD.cl0; exact rfl; exact rfl; exact rfl; exact rfl) | (apply WD.cl1; exact rfl; exact rfl; exact rfl; exact rfl) | (apply W.condT; exact rfl) | (apply W.condF; exact rfl) | (apply W.cond; exact rfl; all_goals intro _) | (apply WO.eql; exact rfl; exact rfl; all_goals first | (intro _; exfalso; omega) | intro _) | (apply WO.neq; exact rfl; exact rfl; all_goals first | (intro _; exfalso; omega) | intro _) | (apply WO.seql; exact rfl; exact rfl; all_goals first | (intro h; exact absurd h (by decide)) | (intro h; exact absurd rfl h) | (intro h; contradiction) | intro _) | (apply WO.sneq; exact rfl; exact rfl; all_goals first | (intro h; exact absurd h (by decide)) | (intro h; exact absurd rfl h) | (intro h; contradiction) | intro _) | (apply WO.clb; exact rfl; exact rfl; exact rfl; all_goals first | (intro h; exact absurd h (by decide)) | intro _) | (apply WO.cll; exact rfl; exact rfl; exact rfl) | (apply WO.hlv; exact rfl; exact rfl; exact rfl) | (apply WO.hpv; exact rfl; exact rfl; exact rfl) | (apply WO.hnv; exact rfl; exact rfl; exact rfl) | (apply WO.pl; exact rfl; exact rfl) | (apply WO.pp; exact rfl; exact rfl)
    all_goals refine ⟨.inr rfl, rfl, _, rfl, congrArg (AV.int .i64) ?_, rfl⟩
    all_goals (by_cases hv : v < 1 ∨ 863999999 < v <;> simp_all [firstNZ, chk, known, kLeast, kMost] <;> omega)
  · repeat' first | apply W.seq | apply SQn | apply W.region | apply WO.nil | apply W.block | apply W.ret | apply W.exit | apply W.skip | apply SQr | apply SQe | apply BQn | apply BQr | apply BQe | (apply BQo; exact rfl) | apply LQe | apply LQr | (apply W.drawro; exact rfl) | apply W.draw | apply WD.nil | (apply WD.gT; exact rfl) | (apply WD.gF; exact rfl) | (apply WD.sT; exact rfl) | (apply WD.sF; exact rfl) | (apply WD.sU; exact rfl) | (apply WD.pure1; exact rfl) | (apply WD.load1; exact rfl; exact rfl; exact rfl) | (apply WD.store1; exact rfl; exact rfl; exact rfl) | (apply WD.new1; exact rfl) | (apply WD.look1; exact rfl; exact rfl) | (apply WD.clb; exact rfl; exact rfl; exact rfl; exact rfl; all_goals first | (intro h; exact absurd h (by decide)) | intro _) | (apply WD.cl0; exact rfl; exact rfl; exact rfl; exact rfl) | (apply WD.cl1; exact rfl; exact rfl; exact rfl; exact rfl) | (apply W.condT; exact rfl) | (apply W.condF; exact rfl) | (apply W.cond; exact rfl; all_goals intro _) | (apply WO.eql; exact rfl; exact rfl; all_goals first | (intro _; exfalso; omega) | intro _) | (apply WO.neq; exact rfl; exact rfl; all_goals first | (intro _; exfalso; omega) | intro _) | (apply WO.seql; exact rfl; exact rfl; all_goals first | (intro h; exact absurd h (by decide)) | (intro h; exact absurd rfl h) | (intro h; contradiction) | intro _) | (apply WO.sneq; exact rfl; exact rfl; all_goals first | (intro h; exact absurd h (by decide)) | (intro h; exact absurd rfl h) | (intro h; contradiction) | intro _) | (apply WO.clb; exact rfl; exact rfl; exact rfl; all_goals first | (intro h; exact absurd h (by decide)) | intro _) | (apply WO.cll; exact rfl; exact rfl; exact rfl) | (apply WO.hlv; exact rfl; exact rfl; exact rfl) | (apply WO.hpv; exact rfl; exact rfl; exact rfl) | (apply WO.hnv; exact rfl; exact rfl; exact rfl) | (apply WO.pl; exact rfl; exact rfl) | (apply WO.pp; exact rfl; exact rfl)
    all_goals refine ⟨.inr rfl, rfl, _, rfl, congrArg (AV.int .i64) ?_, rfl⟩
    all_goals (by_cases hv : v < 0 ∨ 999999 < v <;> simp_all [firstNZ, chk, known, kLeast, kMost] <;> omega)
  · repeat' first | apply W.seq | apply SQn | apply W.region | apply WO.nil | apply W.block | apply W.ret | apply W.exit | apply W.skip | apply SQr | apply SQe | apply BQn | apply BQr | apply BQe | (apply BQo; exact rfl) | apply LQe | apply LQr | (apply W.drawro; exact rfl) | apply W.draw | apply WD.nil | (apply WD.gT; exact rfl) | (apply WD.gF; exact rfl) | (apply WD.sT; exact rfl) | (apply WD.sF; exact rfl) | (apply WD.sU; exact rfl) | (apply WD.pure1; exact rfl) | (apply WD.load1; exact rfl; exact rfl; exact rfl) | (apply WD.store1; exact rfl; exact rfl; exact rfl) | (apply WD.new1; exact rfl) | (apply WD.look1; exact rfl; exact rfl) | (apply WD.clb; exact rfl; exact rfl; exact rfl; exact rfl; all_goals first | (intro h; exact absurd h (by decide)) | intro _) | (apply WD.cl0; exact rfl; exact rfl; exact rfl; exact rfl) | (apply WD.cl1; exact rfl; exact rfl; exact rfl; exact rfl) | (apply W.condT; exact rfl) | (apply W.condF; exact rfl) | (apply W.cond; exact rfl; all_goals intro _) | (apply WO.eql; exact rfl; exact rfl; all_goals first | (intro _; exfalso; omega) | intro _) | (apply WO.neq; exact rfl; exact rfl; all_goals first | (intro _; exfalso; omega) | intro _) | (apply WO.seql; exact rfl; exact rfl; all_goals first | (intro h; exact absurd h (by decide)) | (intro h; exact absurd rfl h) | (intro h; contradiction) | intro _) | (apply WO.sneq; exact rfl; exact rfl; all_goals first | (intro h; exact absurd h (by decide)) | (intro h; exact absurd rfl h) | (intro h; contradiction) | intro _) | (apply WO.clb; exact rfl; exact rfl; exact rfl; all_goals first | (intro h; exact absurd h (by decide)) | intro _) | (apply WO.cll; exact rfl; exact rfl; exact rfl) | (apply WO.hlv; exact rfl; exact rfl; exact rfl) | (apply WO.hpv; exact rfl; exact rfl; exact rfl) | (apply WO.hnv; exact rfl; exact rfl; exact rfl) | (apply WO.pl; exact rfl; exact rfl) | (apply WO.pp; exact rfl; exact rfl)
    all_goals refine ⟨.inr rfl, rfl, _, rfl, congrArg (AV.int .i64) ?_, rfl⟩
    all_goals (by_cases hv : v < 0 ∨ 99999 < v <;> simp_all [firstNZ, chk, known, kLeast, kMost] <;> omega)
  · simp only [known, not_or] at h2
    have b1 : (k == sTime) = false := beq_eq_false_iff_ne.2 h2.1
    have b2 : (k == sLength) = false := beq_eq_false_iff_ne.2 h2.2.1
    have b3 : (k == sPoints) = false := beq_eq_false_iff_ne.2 h2.2.2
    repeat' first | apply W.seq | apply SQn | apply W.region | apply WO.nil | apply W.block | apply W.ret | apply W.exit | apply W.skip | apply SQr | apply SQe | apply BQn | apply BQr | apply BQe | (apply BQo; exact rfl) | apply LQe | apply LQr | (apply W.drawro; exact rfl) | apply W.draw | apply WD.nil | (apply WD.gT; exact rfl) | (apply WD.gF; exact rfl) | (apply WD.sT; exact rfl) | (apply WD.sF; exact rfl) | (apply WD.sU; exact rfl) | (apply WD.pure1; exact rfl) | (apply WD.load1; exact rfl; exact rfl; exact rfl) | (apply WD.store1; exact rfl; exact rfl; exact rfl) | (apply WD.new1; exact rfl) | (apply WD.look1; exact rfl; exact rfl) | (apply WD.clb; exact rfl; exact rfl; exact rfl; exact rfl; all_goals first | (intro h; exact absurd h (by decide)) | intro _) | (apply WD.cl0; exact rfl; exact rfl; exact rfl; exact rfl) | (apply WD.cl1; exact rfl; exact rfl; exact rfl; exact rfl) | (apply W.condT; exact rfl) | (apply W.condF; exact rfl) | (apply W.cond; exact rfl; all_goals intro _) | (apply WO.eql; exact rfl; exact rfl; all_goals first | (intro _; exfalso; omega) | intro _) | (apply WO.neq; exact rfl; exact rfl; all_goals first | (intro _; exfalso; omega) | intro _) | (apply WO.lkN; exact rfl; exact rfl; exact rfl; exact rfl; simp only [findA, keyEq, b1, b2, b3]) | (apply WO.seql; exact rfl; exact rfl; all_goals first | (intro h; exact absurd h (by decide)) | (intro h; exact absurd rfl h) | (intro h; contradiction) | intro _) | (apply WO.sneq; exact rfl; exact rfl; all_goals first | (intro h; exact absurd h (by decide)) | (intro h; exact absurd rfl h) | (intro h; contradiction) | intro _) | (apply WO.clb; exact rfl; exact rfl; exact rfl; all_goals first | (intro h; exact absurd h (by decide)) | intro _) | (apply WO.cll; exact rfl; exact rfl; exact rfl) | (apply WO.hlv; exact rfl; exact rfl; exact rfl) | (apply WO.hpv; exact rfl; exact rfl; exact rfl) | (apply WO.hnv; exact rfl; exact rfl; exact rfl) | (apply WO.pl; exact rfl; exact rfl) | (apply WO.pp; exact rfl; exact rfl)
    all_goals refine ⟨.inr rfl, rfl, _, rfl, congrArg (AV.int .i64) ?_, rfl⟩
    all_goals simp [firstNZ, chk, known, h1, h2]

def specChk : Spec := fun
  | [.agg [.str k, .int .i64 v, .str r]], h => some ⟨.int .i64 (chk k v r), h, []⟩
  | _, _ => none

theorem w110 {T : List (Nat × Spec)} (hft : F = FT) (k : List UInt8) : Run (mk0 T inv F) 110 [.str k] [] ⟨.int .i64 (kLeast k), [], []⟩ := by
  refine run_of_W (show F 110 = _ from by rw [hft]; exact ft110) (by simp) ?_
  unfold b110
  simp only [List.map_cons, List.map_nil, List.getElem?_cons_zero, List.getElem?_cons_succ, List.getElem?_nil, Option.getD_some, Option.getD_none]
  repeat' first | apply W.seq | apply SQn | apply W.region | apply WO.nil | apply W.block | apply W.ret | apply W.exit | apply W.skip | apply SQr | apply SQe | apply BQn | apply BQr | apply BQe | (apply BQo; exact rfl) | apply LQe | apply LQr | (apply W.condT; exact rfl) | (apply W.condF; exact rfl) | (apply W.cond; exact rfl; all_goals intro _) | (apply WO.eql; exact rfl; exact rfl; all_goals first | (intro _; exfalso; omega) | intro _) | (apply WO.seql; exact rfl; exact rfl; all_goals first | (intro h; exact absurd h (by decide)) | (intro h; exact absurd rfl h) | (intro h; contradiction) | intro _) | (apply WO.pl; exact rfl; exact rfl) | (apply WO.pp; exact rfl; exact rfl)
  all_goals exact ⟨.inr rfl, rfl, _, rfl, by simp [tupA, kLeast, *], rfl⟩
theorem w111 {T : List (Nat × Spec)} (hft : F = FT) (k : List UInt8) : Run (mk0 T inv F) 111 [.str k] [] ⟨.int .i64 (kMost k), [], []⟩ := by
  refine run_of_W (show F 111 = _ from by rw [hft]; exact ft111) (by simp) ?_
  unfold b111
  simp only [List.map_cons, List.map_nil, List.getElem?_cons_zero, List.getElem?_cons_succ, List.getElem?_nil, Option.getD_some, Option.getD_none]
  repeat' first | apply W.seq | apply SQn | apply W.region | apply WO.nil | apply W.block | apply W.ret | apply W.exit | apply W.skip | apply SQr | apply SQe | apply BQn | apply BQr | apply BQe | (apply BQo; exact rfl) | apply LQe | apply LQr | (apply W.condT; exact rfl) | (apply W.condF; exact rfl) | (apply W.cond; exact rfl; all_goals intro _) | (apply WO.eql; exact rfl; exact rfl; all_goals first | (intro _; exfalso; omega) | intro _) | (apply WO.seql; exact rfl; exact rfl; all_goals first | (intro h; exact absurd h (by decide)) | (intro h; exact absurd rfl h) | (intro h; contradiction) | intro _) | (apply WO.pl; exact rfl; exact rfl) | (apply WO.pp; exact rfl; exact rfl)
  all_goals exact ⟨.inr rfl, rfl, _, rfl, by simp [tupA, kMost, *], rfl⟩
def TRefChk : List (Nat × Spec) := [(109, specReason), (110, fun
  | [.str k], h => some ⟨.int .i64 (kLeast k), h, []⟩
  | _, _ => none), (111, fun
  | [.str k], h => some ⟨.int .i64 (kMost k), h, []⟩
  | _, _ => none)]
set_option maxHeartbeats 4000000 in
theorem w35 (hft : F = FT) (k : List UInt8) (v : Int) (r : List UInt8) : Run (mk0 TRefChk inv F) 35 [mkM k v r] [] ⟨.int .i64 (chk k v r), [], []⟩ := by
  refine run_of_W (show F 35 = _ from by rw [hft]; exact ft35) (by simp) ?_
  unfold b35
  simp only [List.map_cons, List.map_nil, List.getElem?_cons_zero, List.getElem?_cons_succ, List.getElem?_nil, Option.getD_some, Option.getD_none]
  rcases kind_cases k with rfl | rfl | rfl | rfl | ⟨h1, h2⟩
  · repeat' first | apply W.seq | apply SQn | apply W.region | apply WO.nil | apply W.block | apply W.ret | apply W.exit | apply W.skip | apply SQr | apply SQe | apply BQn | apply BQr | apply BQe | (apply BQo; exact rfl) | apply LQe | apply LQr | (apply W.drawro; exact rfl) | apply W.draw | apply WD.nil | (apply WD.gT; exact rfl) | (apply WD.gF; exact rfl) | (apply WD.sT; exact rfl) | (apply WD.sF; exact rfl) | (apply WD.sU; exact rfl) | (apply WD.pure1; exact rfl) | (apply WD.load1; exact rfl; exact rfl; exact rfl) | (apply WD.new1; exact rfl) | (apply WD.clb; exact rfl; exact rfl; exact rfl; exact rfl; all_goals first | (intro h; exact absurd h (by decide)) | intro _) | (apply WD.cl0; exact rfl; exact rfl; exact rfl; exact rfl) | (apply WD.cl1; exact rfl; exact rfl; exact rfl; exact rfl) | (apply W.condT; exact rfl) | (apply W.condF; exact rfl) | (apply W.cond; exact rfl; all_goals intro _) | (apply WO.gT; exact rfl) | (apply WO.gF; exact rfl) | (apply WO.sT; exact rfl) | (apply WO.sF; exact rfl) | (apply WO.sU; exact rfl) | (apply WO.lss; exact rfl; exact rfl; all_goals first | (intro _; exfalso; omega) | intro _) | (apply WO.gtr; exact rfl; exact rfl; all_goals first | (intro _; exfalso; omega) | intro _) | (apply WO.eql; exact rfl; exact rfl; all_goals first | (intro _; exfalso; omega) | intro _) | (apply WO.neq; exact rfl; exact rfl; all_goals first | (intro _; exfalso; omega) | intro _) | (apply WO.pkT; exact rfl; exact rfl) | (apply WO.pkF; exact rfl; exact rfl) | (apply WO.seql; exact rfl; exact rfl; all_goals first | (intro h; exact absurd h (by decide)) | (intro h; exact absurd rfl h) | (intro h; contradiction) | intro _) | (apply WO.sneq; exact rfl; exact rfl; all_goals first | (intro h; exact absurd h (by decide)) | (intro h; exact absurd rfl h) | (intro h; contradiction) | intro _) | (apply WO.clb; exact rfl; exact rfl; exact rfl; all_goals first | (intro h; exact absurd h (by decide)) | intro _) | (apply WO.cll; exact rfl; exact rfl; exact rfl) | (apply WO.hlv; exact rfl; exact rfl; exact rfl) | (apply WO.hpv; exact rfl; exact rfl; exact rfl) | (apply WO.hnv; exact rfl; exact rfl; exact rfl) | (apply WO.pl; exact rfl; exact rfl) | (apply WO.pp; exact rfl; exact rfl)
    all_goals refine ⟨.inr rfl, rfl, _, rfl, congrArg (AV.int .i64) ?_, rfl⟩
    all_goals simp_all [chk]
  · repeat' first | apply W.seq | apply SQn | apply W.region | apply WO.nil | apply W.block | apply W.ret | apply W.exit | apply W.skip | apply SQr | apply SQe | apply BQn | apply BQr | apply BQe | (apply BQo; exact rfl) | apply LQe | apply LQr | (apply W.drawro; exact rfl) | apply W.draw | apply WD.nil | (apply WD.gT; exact rfl) | (apply WD.gF; exact rfl) | (apply WD.sT; exact rfl) | (apply WD.sF; exact rfl) | (apply WD.sU; exact rfl) | (apply WD.pure1; exact rfl) | (apply WD.load1; exact rfl; exact rfl; exact rfl) | (apply WD.new1; exact rfl) | (apply WD.clb; exact rfl; exact rfl; exact rfl; exact rfl; all_goals first | (intro h; exact absurd h (by decide)) | intro _) | (apply WD.cl0; exact rfl; exact rfl; exact rfl; exact rfl) | (apply WD.cl1; exact rfl; exact rfl; exact rfl; exact rfl) | (apply W.condT; exact rfl) | (apply W.condF; exact rfl) | (apply W.cond; exact rfl; all_goals intro _) | (apply WO.gT; exact rfl) | (apply WO.gF; exact rfl) | (apply WO.sT; exact rfl) | (apply WO.sF; exact rfl) | (apply WO.sU; exact rfl) | (apply WO.lss; exact rfl; exact rfl; all_goals first | (intro _; exfalso; omega) | intro _) | (apply WO.gtr; exact rfl; exact rfl; all_goals first | (intro _; exfalso; omega) | intro _) | (apply WO.eql; exact rfl; exact rfl; all_goals first | (intro _; exfalso; omega) | intro _) | (apply WO.neq; exact rfl; exact rfl; all_goals first | (intro _; exfalso; omega) | intro _) | (apply WO.pkT; exact rfl; exact rfl) | (apply WO.pkF; exact rfl; exact rfl) | (apply WO.seql; exact rfl; exact rfl; all_goals first | (intro h; exact absurd h (by decide)) | (intro h; exact absurd rfl h) | (intro h; contradiction) | intro _) | (apply WO.sneq; exact rfl; exact rfl; all_goals first | (intro h; exact absurd h (by decide)) | (intro h; exact absurd rfl h) | (intro h; contradiction) | intro _) | (apply WO.clb; exact rfl; exact rfl; exact rfl; all_goals first | (intro h; exact absurd h (by decide)) | intro _) | (apply WO.cll; exact rfl; exact rfl; exact rfl) | (apply WO.hlv; exact rfl; exact rfl; exact rfl) | (apply WO.hpv; exact rfl; exact rfl; exact rfl) | (apply WO.hnv; exact rfl; exact rfl; exact rfl) | (apply WO.pl; exact rfl; exact rfl) | (apply WO.pp; exact rfl; exact rfl)
    all_goals refine ⟨.inr rfl, rfl, _, rfl, congrArg (AV.int .i64) ?_, rfl⟩
    all_goals simp_all [chk, known, kLeast, kMost]
    all_goals omega
  · repeat' first | apply W.seq | apply SQn | apply W.region | apply WO.nil | apply W.block | apply W.ret | apply W.exit | apply W.skip | apply SQr | apply SQe | apply BQn | apply BQr | apply BQe | (apply BQo; exact rfl) | apply LQe | apply LQr | (apply W.drawro; exact rfl) | apply W.draw | apply WD.nil | (apply WD.gT; exact rfl) | (apply WD.gF; exact rfl) | (apply WD.sT; exact rfl) | (apply WD.sF; exact rfl) | (apply WD.sU; exact rfl) | (apply WD.pure1; exact rfl) | (apply WD.load1; exact rfl; exact rfl; exact rfl) | (apply WD.new1; exact rfl) | (apply WD.clb; exact rfl; exact rfl; exact rfl; exact rfl; all_goals first | (intro h; exact absurd h (by decide)) | intro _) | (apply WD.cl0; exact rfl; exact rfl; exact rfl; exact rfl) | (apply WD.cl1; exact rfl; exact rfl; exact rfl; exact rfl) | (apply W.condT; exact rfl) | (apply W.condF; exact rfl) | (apply W.cond; exact rfl; all_goals intro _) | (apply WO.gT; exact rfl) | (apply WO.gF; exact rfl) | (apply WO.sT; exact rfl) | (apply WO.sF; exact rfl) | (apply WO.sU; exact rfl) | (apply WO.lss; exact rfl; exact rfl; all_goals first | (intro _; exfalso; omega) | intro _) | (apply WO.gtr; exact rfl; exact rfl; all_goals first | (intro _; exfalso; omega) | intro _) | (apply WO.eql; exact rfl; exact rfl; all_goals first | (intro _; exfalso; omega) | intro _) | (apply WO.neq; exact rfl; exact rfl; all_goals first | (intro _; exfalso; omega) | intro _) | (apply WO.pkT; exact rfl; exact rfl) | (apply WO.pkF; exact rfl; exact rfl) | (apply WO.seql; exact rfl; exact rfl; all_goals first | (intro h; exact absurd h (by decide)) | (intro h; exact absurd rfl h) | (intro h; contradiction) | intro _) | (apply WO.sneq; exact rfl; exact rfl; all_goals first | (intro h; exact absurd h (by decide)) | (intro h; exact absurd rfl h) | (intro h; contradiction) | intro _) | (apply WO.clb; exact rfl; exact rfl; exact rfl; all_goals first | (intro h; exact absurd h (by decide)) | intro _) | (apply WO.cll; exact rfl; exact rfl; exact rfl) | (apply WO.hlv; exact rfl; exact rfl; exact rfl) | (apply WO.hpv; exact rfl; exact rfl; exact rfl) | (apply WO.hnv; exact rfl; exact rfl; exact rfl) | (apply WO.pl; exact rfl; exact rfl) | (apply WO.pp; exact rfl; exact rfl)
    all_goals refine ⟨.inr rfl, rfl, _, rfl, congrArg (AV.int .i64) ?_, rfl⟩
    all_goals simp_all [chk, known, kLeast, kMost]
    all_goals omega
  · repeat' first | apply W.seq | apply SQn | apply W.region | apply WO.nil | apply W.block | apply W.ret | apply W.exit | apply W.skip | apply SQr | apply SQe | apply BQn | apply BQr | apply BQe | (apply BQo; exact rfl) | apply LQe | apply LQr | (apply W.drawro; exact rfl) | apply W.draw | apply WD.nil | (apply WD.gT; exact rfl) | (apply WD.gF; exact rfl) | (apply WD.sT; exact rfl) | (apply WD.sF; exact rfl) | (apply WD.sU; exact rfl) | (apply WD.pure1; exact rfl) | (apply WD.load1; exact rfl; exact rfl; exact rfl) | (apply WD.new1; exact rfl) | (apply WD.clb; exact rfl; exact rfl; exact rfl; exact rfl; all_goals first | (intro h; exact absurd h (by decide)) | intro _) | (apply WD.cl0; exact rfl; exact rfl; exact rfl; exact rfl) | (apply WD.cl1; exact rfl; exact rfl; exact rfl; exact rfl) | (apply W.condT; exact rfl) | (apply W.condF; exact rfl) | (apply W.cond; exact rfl; all_goals intro _) | (apply WO.gT; exact rfl) | (apply WO.gF; exact rfl) | (apply WO.sT; exact rfl) | (apply WO.sF; exact rfl) | (apply WO.sU; exact rfl) | (apply WO.lss; exact rfl; exact rfl; all_goals first | (intro _; exfalso; omega) | intro _) | (apply WO.gtr; exact rfl; exact rfl; all_goals first | (intro _; exfalso; omega) | intro _) | (apply WO.eql; exact rfl; exact rfl; all_goals first | (intro _; exfalso; omega) | intro _) | (apply WO.neq; exact rfl; exact rfl; all_goals first | (intro _; exfalso; omega) | intro _) | (apply WO.pkT; exact rfl; exact rfl) | (apply WO.pkF; exact rfl; exact rfl) | (apply WO.seql; exact rfl; exact rfl; all_goals first | (intro h; exact absurd h (by decide)) | (intro h; exact absurd rfl h) | (intro h; contradiction) | intro _) | (apply WO.sneq; exact rfl; exact rfl; all_goals first | (intro h; exact absurd h (by decide)) | (intro h; exact absurd rfl h) | (intro h; contradiction) | intro _) | (apply WO.clb; exact rfl; exact rfl; exact rfl; all_goals first | (intro h; exact absurd h (by decide)) | intro _) | (apply WO.cll; exact rfl; exact rfl; exact rfl) | (apply WO.hlv; exact rfl; exact rfl; exact rfl) | (apply WO.hpv; exact rfl; exact rfl; exact rfl) | (apply WO.hnv; exact rfl; exact rfl; exact rfl) | (apply WO.pl; exact rfl; exact rfl) | (apply WO.pp; exact rfl; exact rfl)
    all_goals refine ⟨.inr rfl, rfl, _, rfl, congrArg (AV.int .i64) ?_, rfl⟩
    all_goals simp_all [chk, known, kLeast, kMost]
    all_goals omega
  · simp only [known, not_or] at h2
    repeat' first | apply W.seq | apply SQn | apply W.region | apply WO.nil | apply W.block | apply W.ret | apply W.exit | apply W.skip | apply SQr | apply SQe | apply BQn | apply BQr | apply BQe | (apply BQo; exact rfl) | apply LQe | apply LQr | (apply W.drawro; exact rfl) | apply W.draw | apply WD.nil | (apply WD.gT; exact rfl) | (apply WD.gF; exact rfl) | (apply WD.sT; exact rfl) | (apply WD.sF; exact rfl) | (apply WD.sU; exact rfl) | (apply WD.pure1; exact rfl) | (apply WD.load1; exact rfl; exact rfl; exact rfl) | (apply WD.new1; exact rfl) | (apply WD.clb; exact rfl; exact rfl; exact rfl; exact rfl; all_goals first | (intro h; exact absurd h (by decide)) | intro _) | (apply WD.cl0; exact rfl; exact rfl; exact rfl; exact rfl) | (apply WD.cl1; exact rfl; exact rfl; exact rfl; exact rfl) | (apply W.condT; exact rfl) | (apply W.condF; exact rfl) | (apply W.cond; exact rfl; all_goals intro _) | (apply WO.gT; exact rfl) | (apply WO.gF; exact rfl) | (apply WO.sT; exact rfl) | (apply WO.sF; exact rfl) | (apply WO.sU; exact rfl) | (apply WO.lss; exact rfl; exact rfl; all_goals first | (intro _; exfalso; omega) | intro _) | (apply WO.gtr; exact rfl; exact rfl; all_goals first | (intro _; exfalso; omega) | intro _) | (apply WO.eql; exact rfl; exact rfl; all_goals first | (intro _; exfalso; omega) | intro _) | (apply WO.neq; exact rfl; exact rfl; all_goals first | (intro _; exfalso; omega) | intro _) | (apply WO.pkT; exact rfl; exact rfl) | (apply WO.pkF; exact rfl; exact rfl) | (apply WO.seql; exact rfl; exact rfl; all_goals first | (intro h; exact absurd h (by decide)) | (intro h; exact absurd rfl h) | (intro h; contradiction) | intro _) | (apply WO.sneq; exact rfl; exact rfl; all_goals first | (intro h; exact absurd h (by decide)) | (intro h; exact absurd rfl h) | (intro h; contradiction) | intro _) | (apply WO.clb; exact rfl; exact rfl; exact rfl; all_goals first | (intro h; exact absurd h (by decide)) | intro _) | (apply WO.cll; exact rfl; exact rfl; exact rfl) | (apply WO.hlv; exact rfl; exact rfl; exact rfl) | (apply WO.hpv; exact rfl; exact rfl; exact rfl) | (apply WO.hnv; exact rfl; exact rfl; exact rfl) | (apply WO.pl; exact rfl; exact rfl) | (apply WO.pp; exact rfl; exact rfl)
    all_goals refine ⟨.inr rfl, rfl, _, rfl, congrArg (AV.int .i64) ?_, rfl⟩
    all_goals simp_all [chk, known]

/-- What a mark is worth. -/
def worth (k : List UInt8) (v : Int) : Int := if k = sTime then IntKind.i64.wrap (0 - v) else if known k then v else -864000000
def specWorth : Spec := fun
  | [.agg [.str k, .int .i64 v, .str _]], h => some ⟨.int .i64 (worth k v), h, []⟩
  | _, _ => none
def TKinds : List (Nat × Spec) := [(113, specKinds)]
set_option maxHeartbeats 4000000 in
theorem w184 (hft : F = FT) (k : List UInt8) (v : Int) (r : List UInt8) : Run (mk0 TKinds inv F) 184 [mkM k v r] [] ⟨.int .i64 (worth k v), [], []⟩ := by
  refine run_of_W (show F 184 = _ from by rw [hft]; exact ft184) (by simp) ?_
  unfold b184
  simp only [List.map_cons, List.map_nil, List.getElem?_cons_zero, List.getElem?_cons_succ, List.getElem?_nil, Option.getD_some, Option.getD_none]
  rcases kind_cases k with rfl | rfl | rfl | rfl | ⟨h1, h2⟩
  · repeat' first | apply W.seq | apply SQn | apply W.region | apply WO.nil | apply W.block | apply W.ret | apply W.exit | apply W.skip | apply SQr | apply SQe | apply BQn | apply BQr | apply BQe | (apply BQo; exact rfl) | apply LQe | apply LQr | (apply W.drawro; exact rfl) | apply W.draw | apply WD.nil | (apply WD.gT; exact rfl) | (apply WD.gF; exact rfl) | (apply WD.sT; exact rfl) | (apply WD.sF; exact rfl) | (apply WD.sU; exact rfl) | (apply WD.pure1; exact rfl) | (apply WD.load1; exact rfl; exact rfl; exact rfl) | (apply WD.store1; exact rfl; exact rfl; exact rfl) | (apply WD.new1; exact rfl) | (apply WD.look1; exact rfl; exact rfl) | (apply WD.clb; exact rfl; exact rfl; exact rfl; exact rfl; all_goals first | (intro h; exact absurd h (by decide)) | intro _) | (apply WD.cl0; exact rfl; exact rfl; exact rfl; exact rfl) | (apply WD.cl1; exact rfl; exact rfl; exact rfl; exact rfl) | (apply W.condT; exact rfl) | (apply W.condF; exact rfl) | (apply W.cond; exact rfl; all_goals intro _) | (apply WO.lkN; exact rfl; exact rfl; exact rfl; exact rfl; exact rfl) | (apply WO.clb; exact rfl; exact rfl; exact rfl; all_goals first | (intro h; exact absurd h (by decide)) | intro _) | (apply WO.cll; exact rfl; exact rfl; exact rfl) | (apply WO.neg; exact rfl; omega) | (apply WO.hlv; exact rfl; exact rfl; exact rfl) | (apply WO.hpv; exact rfl; exact rfl; exact rfl) | (apply WO.hnv; exact rfl; exact rfl; exact rfl) | (apply WO.pl; exact rfl; exact rfl) | (apply WO.pp; exact rfl; exact rfl)
    exact ⟨.inr rfl, rfl, _, rfl, rfl, rfl⟩
  · repeat' first | apply W.seq | apply SQn | apply W.region | apply WO.nil | apply W.block | apply W.ret | apply W.exit | apply W.skip | apply SQr | apply SQe | apply BQn | apply BQr | apply BQe | (apply BQo; exact rfl) | apply LQe | apply LQr | (apply W.drawro; exact rfl) | apply W.draw | apply WD.nil | (apply WD.gT; exact rfl) | (apply WD.gF; exact rfl) | (apply WD.sT; exact rfl) | (apply WD.sF; exact rfl) | (apply WD.sU; exact rfl) | (apply WD.pure1; exact rfl) | (apply WD.load1; exact rfl; exact rfl; exact rfl) | (apply WD.store1; exact rfl; exact rfl; exact rfl) | (apply WD.new1; exact rfl) | (apply WD.look1; exact rfl; exact rfl) | (apply WD.clb; exact rfl; exact rfl; exact rfl; exact rfl; all_goals first | (intro h; exact absurd h (by decide)) | intro _) | (apply WD.cl0; exact rfl; exact rfl; exact rfl; exact rfl) | (apply WD.cl1; exact rfl; exact rfl; exact rfl; exact rfl) | (apply W.condT; exact rfl) | (apply W.condF; exact rfl) | (apply W.cond; exact rfl; all_goals intro _) | (apply WO.clb; exact rfl; exact rfl; exact rfl; all_goals first | (intro h; exact absurd h (by decide)) | intro _) | (apply WO.cll; exact rfl; exact rfl; exact rfl) | (apply WO.neg; exact rfl; omega) | (apply WO.hlv; exact rfl; exact rfl; exact rfl) | (apply WO.hpv; exact rfl; exact rfl; exact rfl) | (apply WO.hnv; exact rfl; exact rfl; exact rfl) | (apply WO.pl; exact rfl; exact rfl) | (apply WO.pp; exact rfl; exact rfl)
    exact ⟨.inr rfl, rfl, _, rfl, rfl, rfl⟩
  · repeat' first | apply W.seq | apply SQn | apply W.region | apply WO.nil | apply W.block | apply W.ret | apply W.exit | apply W.skip | apply SQr | apply SQe | apply BQn | apply BQr | apply BQe | (apply BQo; exact rfl) | apply LQe | apply LQr | (apply W.drawro; exact rfl) | apply W.draw | apply WD.nil | (apply WD.gT; exact rfl) | (apply WD.gF; exact rfl) | (apply WD.sT; exact rfl) | (apply WD.sF; exact rfl) | (apply WD.sU; exact rfl) | (apply WD.pure1; exact rfl) | (apply WD.load1; exact rfl; exact rfl; exact rfl) | (apply WD.store1; exact rfl; exact rfl; exact rfl) | (apply WD.new1; exact rfl) | (apply WD.look1; exact rfl; exact rfl) | (apply WD.clb; exact rfl; exact rfl; exact rfl; exact rfl; all_goals first | (intro h; exact absurd h (by decide)) | intro _) | (apply WD.cl0; exact rfl; exact rfl; exact rfl; exact rfl) | (apply WD.cl1; exact rfl; exact rfl; exact rfl; exact rfl) | (apply W.condT; exact rfl) | (apply W.condF; exact rfl) | (apply W.cond; exact rfl; all_goals intro _) | (apply WO.clb; exact rfl; exact rfl; exact rfl; all_goals first | (intro h; exact absurd h (by decide)) | intro _) | (apply WO.cll; exact rfl; exact rfl; exact rfl) | (apply WO.neg; exact rfl; omega) | (apply WO.hlv; exact rfl; exact rfl; exact rfl) | (apply WO.hpv; exact rfl; exact rfl; exact rfl) | (apply WO.hnv; exact rfl; exact rfl; exact rfl) | (apply WO.pl; exact rfl; exact rfl) | (apply WO.pp; exact rfl; exact rfl)
    exact ⟨.inr rfl, rfl, _, rfl, rfl, rfl⟩
  · repeat' first | apply W.seq | apply SQn | apply W.region | apply WO.nil | apply W.block | apply W.ret | apply W.exit | apply W.skip | apply SQr | apply SQe | apply BQn | apply BQr | apply BQe | (apply BQo; exact rfl) | apply LQe | apply LQr | (apply W.drawro; exact rfl) | apply W.draw | apply WD.nil | (apply WD.gT; exact rfl) | (apply WD.gF; exact rfl) | (apply WD.sT; exact rfl) | (apply WD.sF; exact rfl) | (apply WD.sU; exact rfl) | (apply WD.pure1; exact rfl) | (apply WD.load1; exact rfl; exact rfl; exact rfl) | (apply WD.store1; exact rfl; exact rfl; exact rfl) | (apply WD.new1; exact rfl) | (apply WD.look1; exact rfl; exact rfl) | (apply WD.clb; exact rfl; exact rfl; exact rfl; exact rfl; all_goals first | (intro h; exact absurd h (by decide)) | intro _) | (apply WD.cl0; exact rfl; exact rfl; exact rfl; exact rfl) | (apply WD.cl1; exact rfl; exact rfl; exact rfl; exact rfl) | (apply W.condT; exact rfl) | (apply W.condF; exact rfl) | (apply W.cond; exact rfl; all_goals intro _) | (apply WO.clb; exact rfl; exact rfl; exact rfl; all_goals first | (intro h; exact absurd h (by decide)) | intro _) | (apply WO.cll; exact rfl; exact rfl; exact rfl) | (apply WO.neg; exact rfl; omega) | (apply WO.hlv; exact rfl; exact rfl; exact rfl) | (apply WO.hpv; exact rfl; exact rfl; exact rfl) | (apply WO.hnv; exact rfl; exact rfl; exact rfl) | (apply WO.pl; exact rfl; exact rfl) | (apply WO.pp; exact rfl; exact rfl)
    exact ⟨.inr rfl, rfl, _, rfl, rfl, rfl⟩
  · simp only [known, not_or] at h2
    have b1 : (k == sTime) = false := beq_eq_false_iff_ne.2 h2.1
    have b2 : (k == sLength) = false := beq_eq_false_iff_ne.2 h2.2.1
    have b3 : (k == sPoints) = false := beq_eq_false_iff_ne.2 h2.2.2
    repeat' first | apply W.seq | apply SQn | apply W.region | apply WO.nil | apply W.block | apply W.ret | apply W.exit | apply W.skip | apply SQr | apply SQe | apply BQn | apply BQr | apply BQe | (apply BQo; exact rfl) | apply LQe | apply LQr | (apply W.drawro; exact rfl) | apply W.draw | apply WD.nil | (apply WD.gT; exact rfl) | (apply WD.gF; exact rfl) | (apply WD.sT; exact rfl) | (apply WD.sF; exact rfl) | (apply WD.sU; exact rfl) | (apply WD.pure1; exact rfl) | (apply WD.load1; exact rfl; exact rfl; exact rfl) | (apply WD.store1; exact rfl; exact rfl; exact rfl) | (apply WD.new1; exact rfl) | (apply WD.look1; exact rfl; exact rfl) | (apply WD.clb; exact rfl; exact rfl; exact rfl; exact rfl; all_goals first | (intro h; exact absurd h (by decide)) | intro _) | (apply WD.cl0; exact rfl; exact rfl; exact rfl; exact rfl) | (apply WD.cl1; exact rfl; exact rfl; exact rfl; exact rfl) | (apply W.condT; exact rfl) | (apply W.condF; exact rfl) | (apply W.cond; exact rfl; all_goals intro _) | (apply WO.lkN; exact rfl; exact rfl; exact rfl; exact rfl; simp only [findA, keyEq, b1, b2, b3]) | (apply WO.clb; exact rfl; exact rfl; exact rfl; all_goals first | (intro h; exact absurd h (by decide)) | intro _) | (apply WO.cll; exact rfl; exact rfl; exact rfl) | (apply WO.neg; exact rfl; omega) | (apply WO.hlv; exact rfl; exact rfl; exact rfl) | (apply WO.hpv; exact rfl; exact rfl; exact rfl) | (apply WO.hnv; exact rfl; exact rfl; exact rfl) | (apply WO.pl; exact rfl; exact rfl) | (apply WO.pp; exact rfl; exact rfl)
    exact ⟨.inr rfl, rfl, _, rfl, congrArg (AV.int .i64) (by simp [worth, known, h2]), rfl⟩

/-- -1 as the first number is greater. -/
def cmpW (x y : Int) : Int := if y < x then -1 else if x < y then 1 else 0
def specCmp : Spec := fun
  | [.agg [.str k, .int .i64 v, .str _], .agg [.str k', .int .i64 v', .str _]], h => some ⟨.int .i64 (cmpW (worth k v) (worth k' v')), h, []⟩
  | _, _ => none
def TCmp : List (Nat × Spec) := [(184, specWorth)]
theorem w115 (hft : F = FT) (k : List UInt8) (v : Int) (r : List UInt8) (k' : List UInt8) (v' : Int) (r' : List UInt8) : Run (mk0 TCmp inv F) 115 [mkM k v r, mkM k' v' r'] [] ⟨.int .i64 (cmpW (worth k v) (worth k' v')), [], []⟩ := by
  refine run_of_W (show F 115 = _ from by rw [hft]; exact ft115) (by simp) ?_
  unfold b115
  simp only [List.map_cons, List.map_nil, List.getElem?_cons_zero, List.getElem?_cons_succ, List.getElem?_nil, Option.getD_some, Option.getD_none]
  repeat' first | apply W.seq | apply SQn | apply W.region | apply WO.nil | apply W.block | apply W.ret | apply W.exit | apply W.skip | apply SQr | apply SQe | apply BQn | apply BQr | apply BQe | (apply BQo; exact rfl) | apply LQe | apply LQr | (apply W.drawro; exact rfl) | apply W.draw | apply WD.nil | (apply WD.gT; exact rfl) | (apply WD.gF; exact rfl) | (apply WD.sT; exact rfl) | (apply WD.sF; exact rfl) | (apply WD.sU; exact rfl) | (apply WD.pure1; exact rfl) | (apply WD.load1; exact rfl; exact rfl; exact rfl) | (apply WD.new1; exact rfl) | (apply WD.clb; exact rfl; exact rfl; exact rfl; exact rfl; all_goals first | (intro h; exact absurd h (by decide)) | intro _) | (apply WD.cl0; exact rfl; exact rfl; exact rfl; exact rfl) | (apply WD.cl1; exact rfl; exact rfl; exact rfl; exact rfl) | (apply W.condT; exact rfl) | (apply W.condF; exact rfl) | (apply W.cond; exact rfl; all_goals intro _) | (apply WO.lss; exact rfl; exact rfl; all_goals first | (intro _; exfalso; omega) | intro _) | (apply WO.gtr; exact rfl; exact rfl; all_goals first | (intro _; exfalso; omega) | intro _) | (apply WO.clb; exact rfl; exact rfl; exact rfl; all_goals first | (intro h; exact absurd h (by decide)) | intro _) | (apply WO.cll; exact rfl; exact rfl; exact rfl) | (apply WO.hlv; exact rfl; exact rfl; exact rfl) | (apply WO.hpv; exact rfl; exact rfl; exact rfl) | (apply WO.hnv; exact rfl; exact rfl; exact rfl) | (apply WO.pl; exact rfl; exact rfl) | (apply WO.pp; exact rfl; exact rfl)
  all_goals refine ⟨.inr rfl, rfl, _, rfl, congrArg (AV.int .i64) ?_, rfl⟩
  all_goals unfold cmpW
  · rw [if_pos (by assumption)]
  · rw [if_neg (by omega), if_pos (by assumption)]
  · rw [if_neg (by omega), if_neg (by omega)]

def differ (k k' : List UInt8) : Bool := decide (k ≠ k' ∧ k ≠ sNone ∧ k' ≠ sNone)
def specDiffer : Spec := fun
  | [.agg [.str k, .int .i64 _, .str _], .agg [.str k', .int .i64 _, .str _]], h => some ⟨.bool (differ k k'), h, []⟩
  | _, _ => none
theorem w114 {T : List (Nat × Spec)} (hft : F = FT) (k : List UInt8) (v : Int) (r : List UInt8) (k' : List UInt8) (v' : Int) (r' : List UInt8) : Run (mk0 T inv F) 114 [mkM k v r, mkM k' v' r'] [] ⟨.bool (differ k k'), [], []⟩ := by
  refine run_of_W (show F 114 = _ from by rw [hft]; exact ft114) (by simp) ?_
  unfold b114
  simp only [List.map_cons, List.map_nil, List.getElem?_cons_zero, List.getElem?_cons_succ, List.getElem?_nil, Option.getD_some, Option.getD_none]
  repeat' first | apply W.seq | apply SQn | apply W.region | apply WO.nil | apply W.block | apply W.ret | apply W.exit | apply W.skip | apply SQr | apply SQe | apply BQn | apply BQr | apply BQe | (apply BQo; exact rfl) | apply LQe | apply LQr | (apply W.condT; exact rfl) | (apply W.condF; exact rfl) | (apply W.cond; exact rfl; all_goals intro _) | (apply WO.gT; exact rfl) | (apply WO.gF; exact rfl) | (apply WO.sT; exact rfl) | (apply WO.sF; exact rfl) | (apply WO.sU; exact rfl) | (apply WO.neq; exact rfl; exact rfl; all_goals first | (intro _; exfalso; omega) | intro _) | (apply WO.pkT; exact rfl; exact rfl) | (apply WO.pkF; exact rfl; exact rfl) | (apply WO.sneq; exact rfl; exact rfl; all_goals first | (intro h; exact absurd h (by decide)) | (intro h; exact absurd rfl h) | (intro h; contradiction) | intro _) | (apply WO.hlv; exact rfl; exact rfl; exact rfl) | (apply WO.hpv; exact rfl; exact rfl; exact rfl) | (apply WO.hnv; exact rfl; exact rfl; exact rfl) | (apply WO.pl; exact rfl; exact rfl) | (apply WO.pp; exact rfl; exact rfl)
  all_goals exact ⟨.inr rfl, rfl, _, rfl, congrArg AV.bool (by simp_all [differ]), rfl⟩

/-- The error of a comparison. -/
def cmpE (k : List UInt8) (v : Int) (r : List UInt8) (k' : List UInt8) (v' : Int) (r' : List UInt8) : Int := firstNZ [chk k v r, chk k' v' r', if differ k k' then 13 else 0]
def specCompare : Spec := fun
  | [.agg [.str k, .int .i64 v, .str r], .agg [.str k', .int .i64 v', .str r']], h =>
    some ⟨.tup [.int .i64 (if cmpE k v r k' v' r' ≠ 0 then 0 else cmpW (worth k v) (worth k' v')), .int .i64 (cmpE k v r k' v' r')], h, []⟩
  | _, _ => none
def TCompare : List (Nat × Spec) := [(36, specChk), (114, specDiffer), (97, specWhen), (96, specFirst), (115, specCmp)]
set_option maxHeartbeats 4000000 in
theorem w37 (hft : F = FT) (k : List UInt8) (v : Int) (r : List UInt8) (k' : List UInt8) (v' : Int) (r' : List UInt8) : Run (mk0 TCompare inv F) 37 [mkM k v r, mkM k' v' r'] [] ⟨.tup [.int .i64 (if cmpE k v r k' v' r' ≠ 0 then 0 else cmpW (worth k v) (worth k' v')), .int .i64 (cmpE k v r k' v' r')], [], []⟩ := by
  refine run_of_W (show F 37 = _ from by rw [hft]; exact ft37) (by simp) ?_
  unfold b37
  simp only [List.map_cons, List.map_nil, List.getElem?_cons_zero, List.getElem?_cons_succ, List.getElem?_nil, Option.getD_some, Option.getD_none]
  repeat' first | apply W.seq | apply SQn | apply W.region | apply WO.nil | apply W.block | apply W.ret | apply W.exit | apply W.skip | apply SQr | apply SQe | apply BQn | apply BQr | apply BQe | (apply BQo; exact rfl) | apply LQe | apply LQr | (apply W.drawro; exact rfl) | apply W.draw | apply WD.nil | (apply WD.gT; exact rfl) | (apply WD.gF; exact rfl) | (apply WD.sT; exact rfl) | (apply WD.sF; exact rfl) | (apply WD.sU; exact rfl) | (apply WD.pure1; exact rfl) | (apply WD.load1; exact rfl; exact rfl; exact rfl) | (apply WD.new1; exact rfl) | (apply WD.clb; exact rfl; exact rfl; exact rfl; exact rfl; all_goals first | (intro h; exact absurd h (by decide)) | intro _) | (apply WD.cl0; exact rfl; exact rfl; exact rfl; exact rfl) | (apply WD.cl1; exact rfl; exact rfl; exact rfl; exact rfl) | (apply W.condT; exact rfl) | (apply W.condF; exact rfl) | (apply W.cond; exact rfl; all_goals intro _) | (apply WO.neq; exact rfl; exact rfl; all_goals first | (intro _; exfalso; omega) | intro _) | (apply WO.sneq; exact rfl; exact rfl; all_goals first | (intro h; exact absurd h (by decide)) | (intro h; exact absurd rfl h) | (intro h; contradiction) | intro _) | (apply WO.clb; exact rfl; exact rfl; exact rfl; all_goals first | (intro h; exact absurd h (by decide)) | intro _) | (apply WO.cll; exact rfl; exact rfl; exact rfl) | (apply WO.hlv; exact rfl; exact rfl; exact rfl) | (apply WO.hpv; exact rfl; exact rfl; exact rfl) | (apply WO.hnv; exact rfl; exact rfl; exact rfl) | (apply WO.pl; exact rfl; exact rfl) | (apply WO.pp; exact rfl; exact rfl)
  all_goals refine ⟨.inr rfl, rfl, _, rfl, ?_, rfl⟩
  all_goals (rename_i h1 h2; simp only [tupA, cmpE, h1] at h2 ⊢)
  all_goals first | rw [if_pos h2] | rw [if_neg (by omega), h2]
end Go.Ab.Ch1


/-
  Own work: marks of chapter 1: rounding, winds, the law's own helpers.
-/
namespace Go.Ab.Ch1
variable {inv : InvF} {F : FuncId → Option IFunc}

def isClass (c : List UInt8) : Prop := c ∈ [sExact, sHund, sTenths, sCent]
instance (c : List UInt8) : Decidable (isClass c) := by unfold isClass; infer_instance
theorem chk_zero {k : List UInt8} {v : Int} {r : List UInt8} (h : chk k v r = 0) : (k = sNone ∧ r ∈ reasons ∧ v = 0) ∨ (k ≠ sNone ∧ known k ∧ r = [] ∧ kLeast k ≤ v ∧ v ≤ kMost k) := by
  unfold chk at h
  split at h
  · rename_i h1
    split at h
    · cases h
    · rename_i h2
      split at h
      · cases h
      · rename_i h3
        exact .inl ⟨h1, Classical.not_not.1 h2, Classical.not_not.1 h3⟩
  · rename_i h1
    split at h
    · cases h
    · rename_i h2
      split at h
      · cases h
      · rename_i h3
        split at h
        · cases h
        · rename_i h4
          exact .inr ⟨h1, Classical.not_not.1 h2, Classical.not_not.1 h3, by omega, by omega⟩

end Go.Ab.Ch1


/-
  Own work: marks of chapter 1: the reference's rounding, winds, the law's own helpers.
-/
namespace Go.Ab.Ch1
variable {inv : InvF} {F : FuncId → Option IFunc}

def specMost : Spec := fun
  | [.str k], h => some ⟨.int .i64 (kMost k), h, []⟩
  | _, _ => none
end Go.Ab.Ch1


/-
  Own work: marks of chapter 1: winds, the reference's order, MarkChecks.
-/
namespace Go.Ab.Ch1
variable {inv : InvF} {F : FuncId → Option IFunc}

def specOut : Spec := fun
  | [.int .i64 x, .int .i64 lo, .int .i64 hi], h => some ⟨.bool (decide (x < lo) || decide (hi < x)), h, []⟩
  | _, _ => none
theorem worth_time {v : Int} (h0 : 0 ≤ v) (h1 : v ≤ 863999999) : worth sTime v = -v := by
  unfold worth
  rw [if_pos rfl, show 0 - v = -v from by omega]
  exact i64_wrap (by omega)

end Go.Ab.Ch1


/-
  Own work: stadionlaw01.MarkChecks answers true.
-/
namespace Go.Ab.Ch1
variable {inv : InvF} {F : FuncId → Option IFunc}

def specAwake : Spec := fun
  | [], h => some ⟨.bool true, h, []⟩
  | _, _ => none
end Go.Ab.Ch1


/-
  Own work: stadionlaw01.MarkChecks answers true: the whole law.
-/
namespace Go.Ab.Ch1

end Go.Ab.Ch1


/-
  Own work: the contracts of marks as a table.
-/
namespace Go.Ab
variable {ks : List Nat} {N : Nat}
theorem Rn.aggL {l l0 : List AV} (h : RnL ks N l l0) : Rn ks N (.agg l) (.agg l0) := .agg h.1 h.2
end Go.Ab
namespace Go.Ab.Ch1
open Go.Proofs

theorem index185 : SpecOK Tryz.prog gl 185 specIndex := by
  intro xs h r hq
  unfold specIndex at hq
  split at hq
  · split at hq
    · rename_i l hl
      split at hq
      · rename_i hlen
        cases hq
        obtain ⟨S, cap, hf⟩ := (strsAt_sl hl).fr (fun _ => rfl)
        exact ent_run0 seat tab_nil (w185 (T := []) rfl l _ cap hlen) (.cons hf (.cons (.same rfl) .nil)) rfl (.inr rfl)
      · cases hq
    · cases hq
  · cases hq
theorem contains116 : SpecOK Tryz.prog gl 116 specContains := by
  intro xs h r hq
  unfold specContains at hq
  split at hq
  · split at hq
    · rename_i l hl
      split at hq
      · rename_i hlen
        cases hq
        obtain ⟨S, cap, hf⟩ := (strsAt_sl hl).fr (fun _ => rfl)
        exact ent_run0 seat (tab_cons index185 tab_nil) (w116 (T := []) rfl l _ cap hlen) (.cons hf (.cons (.same rfl) .nil)) rfl (.inr rfl)
      · cases hq
    · cases hq
  · cases hq
theorem reason112 : SpecOK Tryz.prog gl 112 specReason := by
  intro xs h r hq
  unfold specReason at hq
  split at hq
  · cases hq; exact ent_run0 seat (tab_cons contains116 tab_nil) (w112 (T := []) rfl _) (FrL.same rfl) rfl (.inl rfl)
  · cases hq
theorem reason109 : SpecOK Tryz.prog gl 109 specReason := by
  intro xs h r hq
  unfold specReason at hq
  split at hq
  · cases hq; exact ent_run0 seat tab_nil (w109 (T := []) rfl _) (FrL.same rfl) rfl (.inl rfl)
  · cases hq
theorem kinds113 : SpecOK Tryz.prog gl 113 specKinds := by
  intro xs h r hq
  unfold specKinds at hq
  split at hq
  · cases hq
    have hk : ∀ (i b : Nat), ([0, 1, 2, 3] : List Nat)[i]? = some b → Rn [0, 1, 2, 3] h.length (.map b) (.map (h.length + i)) := fun i b hi => .map hi
    refine ent_run seat tab_nil (w113 (T := []) rfl) (FrL.nil (S := [])) (ks := [0, 1, 2, 3]) (by decide) (.map (i := 0) rfl) rfl (fun i b o1 hi ho => ?_) (.inl rfl)
    match i, hi, ho with
    | 0, hi, ho =>
      cases hi; cases ho
      refine ⟨_, rfl, .map (.same rfl) ?_, .inl rfl⟩
      refine .cons (.aggL (.cons (.same rfl) (.cons (.same rfl) (.cons (.same rfl) (.cons (hk 1 1 rfl) (.cons (.same rfl) .nil)))))) (.cons (.aggL (.cons (.same rfl) (.cons (.same rfl) (.cons (.same rfl) (.cons (hk 2 2 rfl) (.cons (.same rfl) .nil)))))) (.cons (.aggL (.cons (.same rfl) (.cons (.same rfl) (.cons (.same rfl) (.cons (hk 3 3 rfl) (.cons (.same rfl) .nil)))))) .nil))
    | 1, hi, ho => cases hi; cases ho; exact ⟨_, rfl, .map (.same rfl) (.same rfl), .inl rfl⟩
    | 2, hi, ho => cases hi; cases ho; exact ⟨_, rfl, .map (.same rfl) (.same rfl), .inl rfl⟩
    | 3, hi, ho => cases hi; cases ho; exact ⟨_, rfl, .map (.same rfl) (.same rfl), .inl rfl⟩
  · cases hq
theorem out95 : SpecOK Tryz.prog gl 95 specOut := s95_ok

theorem chk36 : SpecOK Tryz.prog gl 36 specChk := by
  intro xs h r hq
  unfold specChk at hq
  split at hq
  · cases hq; exact ent_run0 seat (tab_cons kinds113 (tab_cons reason112 (tab_cons when97 (tab_cons first96 (tab_cons out95 tab_nil))))) (w36 rfl _ _ _) (FrL.same rfl) rfl (.inl rfl)
  · cases hq
theorem least110 : SpecOK Tryz.prog gl 110 (fun
  | [.str k], h => some ⟨.int .i64 (kLeast k), h, []⟩
  | _, _ => none) := by
  intro xs h r hq
  dsimp only at hq
  split at hq
  · cases hq; exact ent_run0 seat tab_nil (w110 (T := []) rfl _) (FrL.same rfl) rfl (.inl rfl)
  · cases hq
theorem most111 : SpecOK Tryz.prog gl 111 specMost := by
  intro xs h r hq
  unfold specMost at hq
  split at hq
  · cases hq; exact ent_run0 seat tab_nil (w111 (T := []) rfl _) (FrL.same rfl) rfl (.inl rfl)
  · cases hq
theorem chk35 : SpecOK Tryz.prog gl 35 specChk := by
  intro xs h r hq
  unfold specChk at hq
  split at hq
  · cases hq; exact ent_run0 seat (tab_cons reason109 (tab_cons least110 (tab_cons most111 tab_nil))) (w35 rfl _ _ _) (FrL.same rfl) rfl (.inl rfl)
  · cases hq
theorem worth184 : SpecOK Tryz.prog gl 184 specWorth := by
  intro xs h r hq
  unfold specWorth at hq
  split at hq
  · cases hq; exact ent_run0 seat (tab_cons kinds113 tab_nil) (w184 rfl _ _ _) (FrL.same rfl) rfl (.inl rfl)
  · cases hq
theorem cmp115 : SpecOK Tryz.prog gl 115 specCmp := by
  intro xs h r hq
  unfold specCmp at hq
  split at hq
  · cases hq; exact ent_run0 seat (tab_cons worth184 tab_nil) (w115 rfl _ _ _ _ _ _) (FrL.same rfl) rfl (.inl rfl)
  · cases hq
theorem differ114 : SpecOK Tryz.prog gl 114 specDiffer := by
  intro xs h r hq
  unfold specDiffer at hq
  split at hq
  · cases hq; exact ent_run0 seat tab_nil (w114 (T := []) rfl _ _ _ _ _ _) (FrL.same rfl) rfl (.inl rfl)
  · cases hq
theorem compare37 : SpecOK Tryz.prog gl 37 specCompare := by
  intro xs h r hq
  unfold specCompare at hq
  split at hq
  · cases hq; exact ent_run0 seat (tab_cons chk36 (tab_cons differ114 (tab_cons when97 (tab_cons first96 (tab_cons cmp115 tab_nil))))) (w37 rfl _ _ _ _ _ _) (FrL.same rfl) rfl (.inl rfl)
  · cases hq
theorem awake18 : SpecOK Tryz.prog gl 18 specAwake := by
  intro xs h r hq
  unfold specAwake at hq
  split at hq
  · exact s18_ok _ _ _ hq
  · cases hq
end Go.Ab.Ch1


/-
  Own work: the resolved code of some functions of chapter 1: shares and the stable sort.
-/
namespace Go.Ab.Ch1
set_option maxRecDepth 1000000
def b22_0 : ICode :=
 .seq (.seq (.region [⟨(.l 11), .mv (.p 4), none⟩,
     ⟨(.l 12), .mv (.p 1), none⟩,
     ⟨(.l 13), .bin .lss (.l 11) (.l 12), none⟩])
   (.cond (.l 13)
    (.skip)
    (.exit 0)))
  (.seq (.block 1
    (.region [⟨(.l 16), .mv (.p 3), none⟩,
      ⟨(.l 17), .mv (.p 4), none⟩,
      ⟨(.l 18), .mv (.p 4), none⟩,
      ⟨(.l 19), .iaddr none 1 (.l 16) (.l 17), none⟩,
      ⟨.no, .store 1 (.l 19) (.l 18), none⟩]))
   (.region [⟨(.l 14), .mv (.p 4), none⟩,
     ⟨(.l 15), .bin .add (.l 14) (.c (.int .i64 (1))), none⟩,
     ⟨(.p 4), .mv (.l 15), none⟩]))
def b22_1 : ICode :=
 .seq (.seq (.region [⟨(.l 22), .mv (.p 5), none⟩,
     ⟨(.l 23), .bin .geq (.l 22) (.c (.int .i64 (1))), none⟩])
   (.cond (.l 23)
    (.skip)
    (.exit 2)))
  (.seq (.block 3
    (.seq (.region [⟨(.l 26), .mv (.p 0), none⟩,
       ⟨(.l 27), .bin .mul (.c (.int .i64 (69621))) (.l 26), none⟩,
       ⟨(.l 28), .bin .rem (.l 27) (.c (.int .i64 (2147483647))), none⟩,
       ⟨(.p 0), .mv (.l 28), none⟩])
     (.seq (.region [⟨(.l 29), .mv (.p 0), none⟩,
        ⟨(.l 30), .mv (.p 5), none⟩,
        ⟨(.l 31), .bin .add (.l 30) (.c (.int .i64 (1))), none⟩,
        ⟨(.l 32), .bin .rem (.l 29) (.l 31), none⟩,
        ⟨(.p 6), .mv (.l 32), none⟩])
      (.draw [(⟨(.l 33), .mv (.p 3), none⟩, []),
        (⟨(.l 34), .mv (.p 5), none⟩, [0]),
        (⟨(.l 35), .mv (.p 3), none⟩, [0, 1]),
        (⟨(.l 36), .mv (.p 6), none⟩, [0, 1, 2]),
        (⟨(.l 37), .mv (.p 3), none⟩, [0, 1, 2, 3]),
        (⟨(.l 38), .mv (.p 6), none⟩, [0, 1, 2, 3, 4]),
        (⟨(.l 39), .iaddr none 1 (.l 37) (.l 38), none⟩, [0, 1, 2, 3]),
        (⟨(.l 40), .load 1 false (.l 39), none⟩, [0, 1, 2, 3]),
        (⟨(.l 41), .mv (.p 3), none⟩, [0, 1, 2, 3, 4, 5, 6, 7]),
        (⟨(.l 42), .mv (.p 5), none⟩, [0, 1, 2, 3, 4, 5, 6, 7, 8]),
        (⟨(.l 43), .iaddr none 1 (.l 41) (.l 42), none⟩, [0, 1, 2, 3, 4, 5, 6, 7]),
        (⟨(.l 44), .load 1 false (.l 43), none⟩, [0, 1, 2, 3, 4, 5, 6, 7]),
        (⟨(.l 45), .iaddr none 1 (.l 33) (.l 34), none⟩, [2, 3]),
        (⟨.no, .store 1 (.l 45) (.l 40), none⟩, [2, 3]),
        (⟨(.l 46), .iaddr none 1 (.l 35) (.l 36), none⟩, []),
        (⟨.no, .store 1 (.l 46) (.l 44), none⟩, [])]))))
   (.region [⟨(.l 24), .mv (.p 5), none⟩,
     ⟨(.l 25), .bin .sub (.l 24) (.c (.int .i64 (1))), none⟩,
     ⟨(.p 5), .mv (.l 25), none⟩]))
/-- stadion/stadionref01.Draw -/
def b22 : ICode :=
 .seq (.region [⟨(.p 2), .mv (.c (.nilsl)), none⟩])
  (.seq (.region [⟨(.l 9), .mv (.p 1), none⟩,
     ⟨(.l 10), .mkslice 3 1 8 [.int .i64 (0)] (.l 9) (.l 9), none⟩,
     ⟨(.p 3), .mv (.l 10), none⟩])
   (.seq (.seq (.region [⟨(.p 4), .mv (.c (.int .i64 (0))), none⟩])
     (.block 0
      (.loop b22_0)))
    (.seq (.seq (.region [⟨(.l 20), .mv (.p 1), none⟩,
        ⟨(.l 21), .bin .sub (.l 20) (.c (.int .i64 (1))), none⟩,
        ⟨(.p 5), .mv (.l 21), none⟩])
      (.block 2
       (.loop b22_1)))
     (.seq (.region [⟨(.l 47), .mv (.p 3), none⟩,
        ⟨(.p 2), .mv (.l 47), none⟩])
      (.ret)))))
theorem ft22 : FT 22 = some ⟨48, [0, 1, 4, 5, 6, 7, 8], [.var (.p 2)], b22⟩ := by kernel_rfl

end Go.Ab.Ch1


/-
  Own work: plain facts on stable sorting by blocks that are merged in place.
-/
namespace Go.Ab.Sort

/-- By a key, the greater first; equal ones as they are numbered. -/
def Lt (key : Int → Int) (x y : Int) : Prop := key y < key x ∨ key x = key y ∧ x < y

section
variable {key : Int → Int}
def Sd (key : Int → Int) (l : List Int) : Prop := l.Pairwise (Lt key)

theorem Sd.nil : Sd key [] := List.Pairwise.nil
theorem Sd.left {l m : List Int} (h : Sd key (l ++ m)) : Sd key l := (List.pairwise_append.1 h).1
theorem Sd.right {l m : List Int} (h : Sd key (l ++ m)) : Sd key m := (List.pairwise_append.1 h).2.1
end

def sum (l : List Int) : Int := l.foldl (· + ·) 0
theorem foldl_add (l : List Int) (a : Int) : l.foldl (· + ·) a = a + sum l := by
  unfold sum
  induction l generalizing a with
  | nil => simp
  | cons x l ih => rw [List.foldl_cons, List.foldl_cons, ih, ih (0 + x)]; omega
theorem sum_cons (x : Int) (l : List Int) : sum (x :: l) = x + sum l := by
  show (x :: l).foldl (· + ·) 0 = _
  rw [List.foldl_cons, foldl_add]; omega
theorem sum_le {l : List Int} {m : Int} (h : ∀ x ∈ l, x ≤ m) : sum l ≤ l.length * m := by
  induction l with
  | nil => simp [sum]
  | cons x l ih =>
    rw [sum_cons]
    have := ih fun y hy => h y (by simp [hy])
    have := h x (by simp)
    simp only [List.length_cons, Int.natCast_add, Int.add_mul]
    omega
/-- The shares: their whole parts, and one more for the first ranks. -/
def base (total : Int) (w : List Int) : List Int := w.map fun x => total * x / sum w
end Go.Ab.Sort


/-
  Own work: slices.SortStableFunc over ints: what it computes, at a comparison that reads nothing of the row.
-/
namespace Go.Ab.Ch1
open Go.Ab.Sort
variable {M : Mach} {h : Heap} {b n : Nat} {cap : Option Nat} {g : AV}

variable {key : Int → Int} {ok : Int → Prop} {cf : Int → Int → Int}

end Go.Ab.Ch1


/-
  Own work: slices.SortStableFunc over ints: the merge in place.
-/
namespace Go.Ab.Ch1
open Go.Ab.Sort
variable {M : Mach} {h : Heap} {b n : Nat} {cap : Option Nat} {g : AV}
variable {key : Int → Int} {ok : Int → Prop} {cf : Int → Int → Int}

end Go.Ab.Ch1


/-
  Own work: slices.SortStableFunc over ints: the merge in place, whole.
-/
namespace Go.Ab.Ch1
open Go.Ab.Sort
variable {M : Mach} {h : Heap} {b n : Nat} {cap : Option Nat} {g : AV}
variable {key : Int → Int} {ok : Int → Prop} {cf : Int → Int → Int}

end Go.Ab.Ch1


/-
  Own work: slices.SortStableFunc over ints: the merge in place, by induction.
-/
namespace Go.Ab.Ch1
open Go.Ab.Sort
variable {M : Mach} {h : Heap} {b n : Nat} {cap : Option Nat} {g : AV}
variable {key : Int → Int} {ok : Int → Prop} {cf : Int → Int → Int}

theorem _root_.Go.Ab.Sort.Sd.split {L : List Int} {i : Nat} (h : Sd key L) : Sd key (L.take i) ∧ Sd key (L.drop i) := by
  have h' : Sd key (L.take i ++ L.drop i) := by rw [List.take_append_drop]; exact h
  exact ⟨h'.left, h'.right⟩

end Go.Ab.Ch1


/-
  Own work: slices.SortStableFunc over ints: blocks and merges, whole.
-/
namespace Go.Ab.Ch1
open Go.Ab.Sort
variable {M : Mach} {h : Heap} {b n : Nat} {cap : Option Nat} {g : AV}
variable {key : Int → Int} {ok : Int → Prop} {cf : Int → Int → Int}

end Go.Ab.Ch1


/-
  Own work: mark.Shares: what it computes.
-/
namespace Go.Ab.Ch1
open Go.Ab.Sort
variable {M : Mach}

def wOK (total : Int) (w : List Int) : Prop := 0 ≤ total ∧ total ≤ 999999999 ∧ (∀ x ∈ w, 0 ≤ x ∧ x ≤ 999999999) ∧ 0 < Sort.sum w ∧ w.length ≤ 256
theorem wOK.mul {total : Int} {w : List Int} (h : wOK total w) {x : Int} (hx : x ∈ w) : 0 ≤ total * x ∧ total * x ≤ 999999998000000001 := by
  obtain ⟨h1, h2, h3, _⟩ := h
  obtain ⟨g1, g2⟩ := h3 x hx
  refine ⟨Int.mul_nonneg h1 g1, ?_⟩
  have := Int.mul_le_mul h2 g2 g1 (by omega)
  omega
theorem wOK.sum {total : Int} {w : List Int} (h : wOK total w) : 0 < Sort.sum w ∧ Sort.sum w ≤ 256000000000 := by
  obtain ⟨_, _, h3, h4, h5⟩ := h
  have := sum_le fun x hx => (h3 x hx).2
  omega

end Go.Ab.Ch1


/-
  Own work: the other functions of MarkDraws: what they compute.
-/
namespace Go.Ab.Ch1
open Go.Ab.Sort
variable {M : Mach}

/-! stadionref01.Draw; mark.Draw's error. -/
theorem body22_0 (n : Nat) (hn : n ≤ 1000000) (a0 a2 a5 a6 : AV) (df : List Nat) {Q : Ex → StW → Prop} : ∀ (r i : Nat), i + r = n → ∀ (l : List Int) (lo : List (Nat × AV)) (wr : List Nat), l.length = n →
    (∀ lo wr, Q (.exit 0) ⟨⟨[a0, .int .i64 n, a2, .sl 0 0 n 1 (some n), .int .i64 n, a5, a6], lo, [some (.cells (ints (l.take i ++ (List.range' i r).map Int.ofNat)) 3)], df⟩, wr⟩) →
    W M (.loop b22_0) ⟨⟨[a0, .int .i64 n, a2, .sl 0 0 n 1 (some n), .int .i64 i, a5, a6], lo, [some (.cells (ints l) 3)], df⟩, wr⟩ Q
  | 0, i, hi, l, lo, wr, hl, hQ => by
    obtain rfl : i = n := by omega
    rw [List.range'_zero, List.map_nil, List.append_nil, List.take_of_length_le (by omega)] at hQ
    refine W.loop ?_
    unfold b22_0
    repeat' first | apply W.seq | apply SQn | apply W.region | apply WO.nil | apply W.block | apply W.ret | apply W.exit | apply W.skip | apply SQr | apply SQe | apply BQn | apply BQr | apply BQe | (apply BQo; exact rfl) | apply LQe | apply LQr | (apply W.condT; exact rfl) | (apply W.condF; exact rfl) | (apply W.cond; exact rfl; all_goals intro _) | (apply WO.lss; exact rfl; exact rfl; all_goals first | (intro _; exfalso; omega) | intro _) | (apply WO.add; exact rfl; exact rfl; omega) | (apply WO.iav; exact rfl; exact rfl; omega) | (apply WO.ias; exact rfl; exact rfl; omega) | (apply WO.sta; exact rfl; exact rfl; (first | exact rfl | assumption | exact at_new | (apply at_old; assumption) | (apply at_put; first | assumption | (simp only [put_length]; assumption))); exact fun _ => rfl; (first | omega | (simp only [List.length_set]; omega) | (simp; omega)); exact ⟨rfl, by decide, rfl⟩; exact rfl; case ia => infer_instance) | (apply WO.hlv; exact rfl; exact rfl; exact rfl) | (apply WO.hpv; exact rfl; exact rfl; exact rfl) | (apply WO.hnv; exact rfl; exact rfl; exact rfl) | (apply WO.pl; exact rfl; exact rfl) | (apply WO.pp; exact rfl; exact rfl)
    · exact hQ _ _
  | r + 1, i, hi, l, lo, wr, hl, hQ => by
    refine W.loop ?_
    unfold b22_0
    repeat' first | apply W.seq | apply SQn | apply W.region | apply WO.nil | apply W.block | apply W.ret | apply W.exit | apply W.skip | apply SQr | apply SQe | apply BQn | apply BQr | apply BQe | (apply BQo; exact rfl) | apply LQe | apply LQr | (apply W.condT; exact rfl) | (apply W.condF; exact rfl) | (apply W.cond; exact rfl; all_goals intro _) | (apply WO.lss; exact rfl; exact rfl; all_goals first | (intro _; exfalso; omega) | intro _) | (apply WO.add; exact rfl; exact rfl; omega) | (apply WO.iav; exact rfl; exact rfl; omega) | (apply WO.ias; exact rfl; exact rfl; omega) | (apply WO.sta; exact rfl; exact rfl; (first | exact rfl | assumption | exact at_new | (apply at_old; assumption) | (apply at_put; first | assumption | (simp only [put_length]; assumption))); exact fun _ => rfl; (first | omega | (simp only [List.length_set]; omega) | (simp; omega)); exact ⟨rfl, by decide, rfl⟩; exact rfl; case ia => infer_instance) | (apply WO.hlv; exact rfl; exact rfl; exact rfl) | (apply WO.hpv; exact rfl; exact rfl; exact rfl) | (apply WO.hnv; exact rfl; exact rfl; exact rfl) | (apply WO.pl; exact rfl; exact rfl) | (apply WO.pp; exact rfl; exact rfl)
    · refine LQn (body22_0 n hn a0 a2 a5 a6 df r (i + 1) (by omega) (l.set i (i : Int)) _ _ (by simp [hl]) fun lo wr => ?_)
      have e : (l.set i (i : Int)).take (i + 1) ++ (List.range' (i + 1) r).map Int.ofNat = l.take i ++ (List.range' i (r + 1)).map Int.ofNat := by
        have t1 : (l.set i (i : Int)).take (i + 1) = l.take i ++ [(i : Int)] := by
          rw [List.take_add_one, List.take_set_of_le (Nat.le_refl _), List.getElem?_set]
          simp [hl]; omega
        rw [t1, List.range'_succ]
        simp
      rw [e]
      exact hQ lo wr

set_option maxHeartbeats 2000000 in
theorem body22_1 (n : Nat) (hn : n ≤ 1000000) (N a2 a4 : AV) (df : List Nat) {Q : Ex → StW → Prop} : ∀ (i : Nat), (i < n ∨ i = 0) → ∀ (key : Int) (l : List Int) (a6 : AV) (lo : List (Nat × AV)) (wr : List Nat), l.length = n → 0 ≤ key → key < 2147483647 →
    (∀ key' a6 lo wr, Q (.exit 2) ⟨⟨[.int .i64 key', N, a2, .sl 0 0 n 1 (some n), a4, .int .i64 0, a6], lo, [some (.cells (ints (shuf i key l)) 3)], df⟩, wr⟩) →
    W M (.loop b22_1) ⟨⟨[.int .i64 key, N, a2, .sl 0 0 n 1 (some n), a4, .int .i64 i, a6], lo, [some (.cells (ints l) 3)], df⟩, wr⟩ Q
  | 0, hi, key, l, a6, lo, wr, hl, hk0, hk1, hQ => by
    refine W.loop ?_
    unfold b22_1
    repeat' first | apply W.seq | apply SQn | apply W.region | apply WO.nil | apply W.block | apply W.ret | apply W.exit | apply W.skip | apply SQr | apply SQe | apply BQn | apply BQr | apply BQe | (apply BQo; exact rfl) | apply LQe | apply LQr | (apply W.drawro; exact rfl) | apply W.draw | apply WD.nil | (apply WD.gT; exact rfl) | (apply WD.gF; exact rfl) | (apply WD.sT; exact rfl) | (apply WD.sF; exact rfl) | (apply WD.sU; exact rfl) | (apply WD.pure1; exact rfl) | (apply WD.load1; exact rfl; exact rfl; exact rfl) | (apply WD.store1; exact rfl; exact rfl; exact rfl) | (apply W.condT; exact rfl) | (apply W.condF; exact rfl) | (apply W.cond; exact rfl; all_goals intro _) | (apply WO.geq; exact rfl; exact rfl; all_goals first | (intro _; exfalso; omega) | intro _) | (apply WO.add; exact rfl; exact rfl; omega) | (apply WO.sub; exact rfl; exact rfl; omega) | (apply WO.mul; exact rfl; exact rfl; omega) | (apply WO.remp; exact rfl; exact rfl; omega; intro _ _) | (apply WO.remn; exact rfl; exact rfl; omega; intro _ _) | (apply WO.rem; exact rfl; exact rfl; omega) | (apply WO.iav; exact rfl; exact rfl; omega) | (apply WO.ias; exact rfl; exact rfl; omega) | (apply WO.lda; exact rfl; exact fun _ => rfl; (first | omega | (simp only [List.length_set]; omega) | (simp; omega)); decide; exact rfl; case ia => infer_instance) | (apply WO.lsa; exact rfl; (first | exact rfl | assumption | exact at_new | (apply at_old; assumption) | (apply at_put; first | assumption | (simp only [put_length]; assumption))); exact fun _ => rfl; (first | omega | (simp only [List.length_set]; omega) | (simp; omega)); decide; exact rfl; case ia => infer_instance) | (apply WO.sta; exact rfl; exact rfl; (first | exact rfl | assumption | exact at_new | (apply at_old; assumption) | (apply at_put; first | assumption | (simp only [put_length]; assumption))); exact fun _ => rfl; (first | omega | (simp only [List.length_set]; omega) | (simp; omega)); exact ⟨rfl, by decide, rfl⟩; exact rfl; case ia => infer_instance) | (apply WO.hlv; exact rfl; exact rfl; exact rfl) | (apply WO.hpv; exact rfl; exact rfl; exact rfl) | (apply WO.hnv; exact rfl; exact rfl; exact rfl) | (apply WO.pl; exact rfl; exact rfl) | (apply WO.pp; exact rfl; exact rfl)
    · exact hQ _ _ _ _
  | i + 1, hi, key, l, a6, lo, wr, hl, hk0, hk1, hQ => by
    refine W.loop ?_
    unfold b22_1
    repeat' first | apply W.seq | apply SQn | apply W.region | apply WO.nil | apply W.block | apply W.ret | apply W.exit | apply W.skip | apply SQr | apply SQe | apply BQn | apply BQr | apply BQe | (apply BQo; exact rfl) | apply LQe | apply LQr | (apply W.drawro; exact rfl) | apply W.draw | apply WD.nil | (apply WD.gT; exact rfl) | (apply WD.gF; exact rfl) | (apply WD.sT; exact rfl) | (apply WD.sF; exact rfl) | (apply WD.sU; exact rfl) | (apply WD.pure1; exact rfl) | (apply WD.load1; exact rfl; exact rfl; exact rfl) | (apply WD.store1; exact rfl; exact rfl; exact rfl) | (apply W.condT; exact rfl) | (apply W.condF; exact rfl) | (apply W.cond; exact rfl; all_goals intro _) | (apply WO.geq; exact rfl; exact rfl; all_goals first | (intro _; exfalso; omega) | intro _) | (apply WO.add; exact rfl; exact rfl; omega) | (apply WO.sub; exact rfl; exact rfl; omega) | (apply WO.mul; exact rfl; exact rfl; omega) | (apply WO.remp; exact rfl; exact rfl; omega; intro _ _) | (apply WO.remn; exact rfl; exact rfl; omega; intro _ _) | (apply WO.rem; exact rfl; exact rfl; omega) | (apply WO.iav; exact rfl; exact rfl; omega) | (apply WO.ias; exact rfl; exact rfl; omega) | (apply WO.lda; exact rfl; exact fun _ => rfl; (first | omega | (simp only [List.length_set]; omega) | (simp; omega)); decide; exact rfl; case ia => infer_instance) | (apply WO.lsa; exact rfl; (first | exact rfl | assumption | exact at_new | (apply at_old; assumption) | (apply at_put; first | assumption | (simp only [put_length]; assumption))); exact fun _ => rfl; (first | omega | (simp only [List.length_set]; omega) | (simp; omega)); decide; exact rfl; case ia => infer_instance) | (apply WO.sta; exact rfl; exact rfl; (first | exact rfl | assumption | exact at_new | (apply at_old; assumption) | (apply at_put; first | assumption | (simp only [put_length]; assumption))); exact fun _ => rfl; (first | omega | (simp only [List.length_set]; omega) | (simp; omega)); exact ⟨rfl, by decide, rfl⟩; exact rfl; case ia => infer_instance) | (apply WO.hlv; exact rfl; exact rfl; exact rfl) | (apply WO.hpv; exact rfl; exact rfl; exact rfl) | (apply WO.hnv; exact rfl; exact rfl; exact rfl) | (apply WO.pl; exact rfl; exact rfl) | (apply WO.pp; exact rfl; exact rfl)
    · refine LQn ?_
      rw [show ((i + 1 : Nat) : Int) - 1 = (i : Int) from by omega]
      exact body22_1 n hn N a2 a4 df i (by omega) (lcg key) ((l.set (i + 1) l[(slot (i + 1) key).toNat]!).set (slot (i + 1) key).toNat l[i + 1]!) _ _ _ (by simp [hl]) (by assumption) (by assumption) hQ

set_option maxHeartbeats 2000000 in
theorem w22 (hft : M.FT = FT) (key : Int) (n : Nat) (hk0 : 1 ≤ key) (hk1 : key ≤ 2147483646) (hn : n ≤ 256) :
    Run M 22 [.int .i64 key, .int .i64 n] [] ⟨.sl 0 0 n 1 (some n), [some (.cells (ints (shuf (n - 1) key (upto n))) 3)], []⟩ := by
  refine run_of_W (by rw [hft]; exact ft22) (by simp) ?_
  unfold b22
  simp only [List.map_cons, List.map_nil, List.getElem?_cons_zero, List.getElem?_cons_succ, List.getElem?_nil, Option.getD_some, Option.getD_none]
  repeat' first | apply W.seq | apply SQn | apply W.region | apply WO.nil | apply W.block | apply W.ret | apply W.exit | apply W.skip | apply SQr | apply SQe | apply BQn | apply BQr | apply BQe | (apply BQo; exact rfl) | apply LQe | apply LQr | (apply W.drawro; exact rfl) | apply W.draw | apply WD.nil | (apply WD.gT; exact rfl) | (apply WD.gF; exact rfl) | (apply WD.sT; exact rfl) | (apply WD.sF; exact rfl) | (apply WD.sU; exact rfl) | (apply WD.pure1; exact rfl) | (apply WD.load1; exact rfl; exact rfl; exact rfl) | (apply WD.store1; exact rfl; exact rfl; exact rfl) | (apply WD.new1; exact rfl) | (apply W.condT; exact rfl) | (apply W.condF; exact rfl) | (apply W.cond; exact rfl; all_goals intro _) | (apply WO.geq; exact rfl; exact rfl; all_goals first | (intro _; exfalso; omega) | intro _) | (apply WO.add; exact rfl; exact rfl; omega) | (apply WO.sub; exact rfl; exact rfl; omega) | (apply WO.mul; exact rfl; exact rfl; omega) | (apply WO.remp; exact rfl; exact rfl; omega; intro _ _) | (apply WO.remn; exact rfl; exact rfl; omega; intro _ _) | (apply WO.rem; exact rfl; exact rfl; omega) | (apply WO.iav; exact rfl; exact rfl; omega) | (apply WO.ias; exact rfl; exact rfl; omega) | (apply WO.mki; exact rfl; exact rfl; omega) | (apply WO.mkb; exact rfl; exact rfl; omega) | (apply WO.lda; exact rfl; exact fun _ => rfl; (first | omega | (simp only [List.length_set]; omega) | (simp; omega)); decide; exact rfl; case ia => infer_instance) | (apply WO.lsa; exact rfl; (first | exact rfl | assumption | exact at_new | (apply at_old; assumption) | (apply at_put; first | assumption | (simp only [put_length]; assumption))); exact fun _ => rfl; (first | omega | (simp only [List.length_set]; omega) | (simp; omega)); decide; exact rfl; case ia => infer_instance) | (apply WO.sta; exact rfl; exact rfl; (first | exact rfl | assumption | exact at_new | (apply at_old; assumption) | (apply at_put; first | assumption | (simp only [put_length]; assumption))); exact fun _ => rfl; (first | omega | (simp only [List.length_set]; omega) | (simp; omega)); exact ⟨rfl, by decide, rfl⟩; exact rfl; case ia => infer_instance) | (apply WO.hlv; exact rfl; exact rfl; exact rfl) | (apply WO.hpv; exact rfl; exact rfl; exact rfl) | (apply WO.hnv; exact rfl; exact rfl; exact rfl) | (apply WO.pl; exact rfl; exact rfl) | (apply WO.pp; exact rfl; exact rfl)
  refine body22_0 n (by omega) _ _ _ _ _ n 0 (by omega) (List.replicate n 0) _ _ (by simp) (fun lo wr => ?_)
  have e0 : List.take 0 (List.replicate n (0 : Int)) ++ (List.range' 0 n).map Int.ofNat = upto n := by simp [upto, List.range_eq_range']
  rw [e0]
  repeat' first | apply W.seq | apply SQn | apply W.region | apply WO.nil | apply W.block | apply W.ret | apply W.exit | apply W.skip | apply SQr | apply SQe | apply BQn | apply BQr | apply BQe | (apply BQo; exact rfl) | apply LQe | apply LQr | (apply W.drawro; exact rfl) | apply W.draw | apply WD.nil | (apply WD.gT; exact rfl) | (apply WD.gF; exact rfl) | (apply WD.sT; exact rfl) | (apply WD.sF; exact rfl) | (apply WD.sU; exact rfl) | (apply WD.pure1; exact rfl) | (apply WD.load1; exact rfl; exact rfl; exact rfl) | (apply WD.store1; exact rfl; exact rfl; exact rfl) | (apply WD.new1; exact rfl) | (apply W.condT; exact rfl) | (apply W.condF; exact rfl) | (apply W.cond; exact rfl; all_goals intro _) | (apply WO.geq; exact rfl; exact rfl; all_goals first | (intro _; exfalso; omega) | intro _) | (apply WO.add; exact rfl; exact rfl; omega) | (apply WO.sub; exact rfl; exact rfl; omega) | (apply WO.mul; exact rfl; exact rfl; omega) | (apply WO.remp; exact rfl; exact rfl; omega; intro _ _) | (apply WO.remn; exact rfl; exact rfl; omega; intro _ _) | (apply WO.rem; exact rfl; exact rfl; omega) | (apply WO.iav; exact rfl; exact rfl; omega) | (apply WO.ias; exact rfl; exact rfl; omega) | (apply WO.mki; exact rfl; exact rfl; omega) | (apply WO.mkb; exact rfl; exact rfl; omega) | (apply WO.lda; exact rfl; exact fun _ => rfl; (first | omega | (simp only [List.length_set]; omega) | (simp; omega)); decide; exact rfl; case ia => infer_instance) | (apply WO.lsa; exact rfl; (first | exact rfl | assumption | exact at_new | (apply at_old; assumption) | (apply at_put; first | assumption | (simp only [put_length]; assumption))); exact fun _ => rfl; (first | omega | (simp only [List.length_set]; omega) | (simp; omega)); decide; exact rfl; case ia => infer_instance) | (apply WO.sta; exact rfl; exact rfl; (first | exact rfl | assumption | exact at_new | (apply at_old; assumption) | (apply at_put; first | assumption | (simp only [put_length]; assumption))); exact fun _ => rfl; (first | omega | (simp only [List.length_set]; omega) | (simp; omega)); exact ⟨rfl, by decide, rfl⟩; exact rfl; case ia => infer_instance) | (apply WO.hlv; exact rfl; exact rfl; exact rfl) | (apply WO.hpv; exact rfl; exact rfl; exact rfl) | (apply WO.hnv; exact rfl; exact rfl; exact rfl) | (apply WO.pl; exact rfl; exact rfl) | (apply WO.pp; exact rfl; exact rfl)
  rcases Nat.eq_zero_or_pos n with h0 | h0
  · subst h0
    refine W.loop ?_
    unfold b22_1
    repeat' first | apply W.seq | apply SQn | apply W.region | apply WO.nil | apply W.block | apply W.ret | apply W.exit | apply W.skip | apply SQr | apply SQe | apply BQn | apply BQr | apply BQe | (apply BQo; exact rfl) | apply LQe | apply LQr | (apply W.drawro; exact rfl) | apply W.draw | apply WD.nil | (apply WD.gT; exact rfl) | (apply WD.gF; exact rfl) | (apply WD.sT; exact rfl) | (apply WD.sF; exact rfl) | (apply WD.sU; exact rfl) | (apply WD.pure1; exact rfl) | (apply WD.load1; exact rfl; exact rfl; exact rfl) | (apply WD.store1; exact rfl; exact rfl; exact rfl) | (apply WD.new1; exact rfl) | (apply W.condT; exact rfl) | (apply W.condF; exact rfl) | (apply W.cond; exact rfl; all_goals intro _) | (apply WO.geq; exact rfl; exact rfl; all_goals first | (intro _; exfalso; omega) | intro _) | (apply WO.add; exact rfl; exact rfl; omega) | (apply WO.sub; exact rfl; exact rfl; omega) | (apply WO.mul; exact rfl; exact rfl; omega) | (apply WO.remp; exact rfl; exact rfl; omega; intro _ _) | (apply WO.remn; exact rfl; exact rfl; omega; intro _ _) | (apply WO.rem; exact rfl; exact rfl; omega) | (apply WO.iav; exact rfl; exact rfl; omega) | (apply WO.ias; exact rfl; exact rfl; omega) | (apply WO.mki; exact rfl; exact rfl; omega) | (apply WO.mkb; exact rfl; exact rfl; omega) | (apply WO.lda; exact rfl; exact fun _ => rfl; (first | omega | (simp only [List.length_set]; omega) | (simp; omega)); decide; exact rfl; case ia => infer_instance) | (apply WO.lsa; exact rfl; (first | exact rfl | assumption | exact at_new | (apply at_old; assumption) | (apply at_put; first | assumption | (simp only [put_length]; assumption))); exact fun _ => rfl; (first | omega | (simp only [List.length_set]; omega) | (simp; omega)); decide; exact rfl; case ia => infer_instance) | (apply WO.sta; exact rfl; exact rfl; (first | exact rfl | assumption | exact at_new | (apply at_old; assumption) | (apply at_put; first | assumption | (simp only [put_length]; assumption))); exact fun _ => rfl; (first | omega | (simp only [List.length_set]; omega) | (simp; omega)); exact ⟨rfl, by decide, rfl⟩; exact rfl; case ia => infer_instance) | (apply WO.hlv; exact rfl; exact rfl; exact rfl) | (apply WO.hpv; exact rfl; exact rfl; exact rfl) | (apply WO.hnv; exact rfl; exact rfl; exact rfl) | (apply WO.pl; exact rfl; exact rfl) | (apply WO.pp; exact rfl; exact rfl)
    · exact ⟨.inr rfl, rfl, _, rfl, rfl, rfl⟩
  · rw [show (n : Int) - 1 = ((n - 1 : Nat) : Int) from by omega]
    refine body22_1 n (by omega) _ _ _ _ (n - 1) (by omega) key (upto n) _ _ _ (by simp [upto]) (by omega) (by omega) (fun key' a6 lo wr => ?_)
    repeat' first | apply W.seq | apply SQn | apply W.region | apply WO.nil | apply W.block | apply W.ret | apply W.exit | apply W.skip | apply SQr | apply SQe | apply BQn | apply BQr | apply BQe | (apply BQo; exact rfl) | apply LQe | apply LQr | (apply W.drawro; exact rfl) | apply W.draw | apply WD.nil | (apply WD.gT; exact rfl) | (apply WD.gF; exact rfl) | (apply WD.sT; exact rfl) | (apply WD.sF; exact rfl) | (apply WD.sU; exact rfl) | (apply WD.pure1; exact rfl) | (apply WD.load1; exact rfl; exact rfl; exact rfl) | (apply WD.store1; exact rfl; exact rfl; exact rfl) | (apply WD.new1; exact rfl) | (apply W.condT; exact rfl) | (apply W.condF; exact rfl) | (apply W.cond; exact rfl; all_goals intro _) | (apply WO.geq; exact rfl; exact rfl; all_goals first | (intro _; exfalso; omega) | intro _) | (apply WO.add; exact rfl; exact rfl; omega) | (apply WO.sub; exact rfl; exact rfl; omega) | (apply WO.mul; exact rfl; exact rfl; omega) | (apply WO.remp; exact rfl; exact rfl; omega; intro _ _) | (apply WO.remn; exact rfl; exact rfl; omega; intro _ _) | (apply WO.rem; exact rfl; exact rfl; omega) | (apply WO.iav; exact rfl; exact rfl; omega) | (apply WO.ias; exact rfl; exact rfl; omega) | (apply WO.mki; exact rfl; exact rfl; omega) | (apply WO.mkb; exact rfl; exact rfl; omega) | (apply WO.lda; exact rfl; exact fun _ => rfl; (first | omega | (simp only [List.length_set]; omega) | (simp; omega)); decide; exact rfl; case ia => infer_instance) | (apply WO.lsa; exact rfl; (first | exact rfl | assumption | exact at_new | (apply at_old; assumption) | (apply at_put; first | assumption | (simp only [put_length]; assumption))); exact fun _ => rfl; (first | omega | (simp only [List.length_set]; omega) | (simp; omega)); decide; exact rfl; case ia => infer_instance) | (apply WO.sta; exact rfl; exact rfl; (first | exact rfl | assumption | exact at_new | (apply at_old; assumption) | (apply at_put; first | assumption | (simp only [put_length]; assumption))); exact fun _ => rfl; (first | omega | (simp only [List.length_set]; omega) | (simp; omega)); exact ⟨rfl, by decide, rfl⟩; exact rfl; case ia => infer_instance) | (apply WO.hlv; exact rfl; exact rfl; exact rfl) | (apply WO.hpv; exact rfl; exact rfl; exact rfl) | (apply WO.hnv; exact rfl; exact rfl; exact rfl) | (apply WO.pl; exact rfl; exact rfl) | (apply WO.pp; exact rfl; exact rfl)
    exact ⟨.inr rfl, rfl, _, rfl, rfl, by simp [AV.top]⟩

end Go.Ab.Ch1


/-
  Own work: the reference's weights and shares: what they compute.
-/
namespace Go.Ab.Ch1
open Go.Ab.Sort
variable {M : Mach}

end Go.Ab.Ch1


/-
  Own work: stadionlaw01.MarkDraws answers true.
-/
namespace Go.Ab.Ch1
open Go.Ab.Sort
variable {M : Mach}

end Go.Ab.Ch1


/-
  Own work: the contracts of MarkDraws as a table.
-/
namespace Go.Ab.Ch1
open Go.Proofs Go.Ab.Sort

def spec22 : Spec := fun
  | [.int .i64 key, .int .i64 n], h => if 1 ≤ key ∧ key ≤ 2147483646 ∧ 0 ≤ n ∧ n ≤ 256 then some ⟨.sl h.length 0 n.toNat 1 (some n.toNat), h ++ [some (.cells (ints (shuf (n.toNat - 1) key (upto n.toNat))) 3)], []⟩ else none
  | _, _ => none
theorem draw22 : SpecOK Tryz.prog gl 22 spec22 := by
  intro xs h r hq
  unfold spec22 at hq
  split at hq
  · rename_i key n
    split at hq
    · rename_i hc
      cases hq
      have hw := w22 (M := mach Tryz.prog FT []) mach_ft key n.toNat hc.1 hc.2.1 (by omega)
      rw [show ((n.toNat : Nat) : Int) = n from by omega] at hw
      exact ent_run1 seat tab_nil hw (FrL.same rfl) (k := 0) (.sl (i := 0) rfl) rfl (ints_top _) (.inl rfl) (.inl rfl)
    · cases hq
  · cases hq

theorem novL_ints (l : List Int) : novL (ints l) = true := novL_arr (fun _ => rfl) l
end Go.Ab.Ch1


/-
  Own work: the resolved code of some functions of chapter 1: ranks, the sort of a few marks.
-/
namespace Go.Ab.Ch1

def b49_0 : ICode :=
 .seq (.region [⟨(.l 21), .bin .lss (.p 13) (.p 12), none⟩])
  (.seq (.cond (.l 21)
    (.skip)
    (.exit 0))
   (.seq (.block 1
     (.seq (.region [⟨(.l 22), .iaddr none 3 (.p 11) (.p 13), none⟩,
        ⟨(.l 23), .load 3 true (.l 22), none⟩,
        ⟨(.p 4), .alloc 49 [.str [], .int .i64 (0), .str []], none⟩,
        ⟨.no, .store 3 (.p 4) (.l 23), none⟩])
      (.seq (.seq (.draw [(⟨(.l 24), .load 3 true (.p 4), none⟩, []),
          (⟨(.l 25), .call (.c (.fn (.func 36) [] [])) [(.l 24)], none⟩, []),
          (⟨(.l 26), .load 3 true (.p 3), none⟩, [0, 1]),
          (⟨(.l 27), .load 3 true (.p 4), none⟩, [0, 1, 2]),
          (⟨(.l 28), .call (.c (.fn (.func 114) [] [])) [(.l 26), (.l 27)], none⟩, []),
          (⟨(.l 29), .call (.c (.fn (.func 97) [] [])) [(.l 28), (.c (.int .i64 (13)))], none⟩, []),
          (⟨(.l 30), .bslice 25 2 1 [.int .i64 (0)] [(0, 1, (.l 25)), (1, 1, (.l 29))], none⟩, []),
          (⟨(.l 31), .call (.c (.fn (.func 96) [] [])) [(.l 30)], none⟩, []),
          (⟨(.p 5), .mv (.l 31), none⟩, [])])
        (.seq (.region [⟨(.l 32), .mv (.p 5), none⟩,
           ⟨(.l 33), .bin .neq (.l 32) (.c (.int .i64 (0))), none⟩])
         (.cond (.l 33)
          (.seq (.region [⟨(.l 34), .mv (.p 5), none⟩,
             ⟨(.p 1), .mv (.c (.nilsl)), none⟩,
             ⟨(.p 2), .mv (.l 34), none⟩])
           (.ret))
          (.skip))))
       (.seq (.region [⟨(.l 35), .faddr 0 (.p 4), none⟩,
          ⟨(.l 36), .load 1 false (.l 35), none⟩,
          ⟨(.l 37), .bin .neq (.l 36) (.c (.str [110, 111, 110, 101])), none⟩])
        (.cond (.l 37)
         (.region [⟨(.l 38), .load 3 true (.p 4), none⟩,
           ⟨.no, .store 3 (.p 3) (.l 38), none⟩])
         (.skip))))))
    (.region [⟨(.l 39), .bin .add (.p 13) (.c (.int .i64 (1))), none⟩,
      ⟨(.p 13), .mv (.l 39), none⟩])))
def b49_1 : ICode :=
 .seq (.region [⟨(.l 50), .bin .lss (.p 16) (.p 15), none⟩])
  (.seq (.cond (.l 50)
    (.skip)
    (.exit 2))
   (.seq (.block 3
     (.seq (.region [⟨(.l 51), .mv (.p 16), none⟩,
        ⟨(.l 52), .iaddr none 3 (.p 14) (.p 16), none⟩,
        ⟨(.l 53), .load 3 true (.l 52), none⟩,
        ⟨(.p 9), .alloc 49 [.str [], .int .i64 (0), .str []], none⟩,
        ⟨(.p 8), .mv (.l 51), none⟩,
        ⟨.no, .store 3 (.p 9) (.l 53), none⟩])
      (.seq (.region [⟨(.l 54), .faddr 0 (.p 9), none⟩,
         ⟨(.l 55), .load 1 false (.l 54), none⟩,
         ⟨(.l 56), .bin .neq (.l 55) (.c (.str [110, 111, 110, 101])), none⟩])
       (.cond (.l 56)
        (.seq (.region [⟨(.l 58), .mv (.p 7), none⟩,
           ⟨(.l 59), .load 3 true (.p 9), none⟩,
           ⟨(.l 60), .call (.c (.fn (.func 132) [] [])) [(.l 58), (.l 59), (.c (.fn (.func 115) [] []))], none⟩,
           ⟨(.l 57), .mv (.l 60), none⟩,
           ⟨(.l 61), .extract 0 (.l 57), none⟩,
           ⟨(.l 62), .extract 1 (.l 57), none⟩,
           ⟨(.p 10), .mv (.l 61), none⟩,
           ⟨(.l 13), .mv (.l 62), none⟩])
         (.region [⟨(.l 63), .mv (.p 6), none⟩,
           ⟨(.l 64), .mv (.p 8), none⟩,
           ⟨(.l 65), .mv (.p 10), none⟩,
           ⟨(.l 66), .bin .add (.l 65) (.c (.int .i64 (1))), none⟩,
           ⟨(.l 67), .iaddr none 1 (.l 63) (.l 64), none⟩,
           ⟨.no, .store 1 (.l 67) (.l 66), none⟩]))
        (.skip)))))
    (.region [⟨(.l 68), .bin .add (.p 16) (.c (.int .i64 (1))), none⟩,
      ⟨(.p 16), .mv (.l 68), none⟩])))
/-- stadion/mark.Ranks -/
def b49 : ICode :=
 .seq (.region [⟨(.p 1), .mv (.c (.nilsl)), none⟩,
    ⟨(.p 2), .mv (.c (.int .i64 (0))), none⟩])
  (.seq (.seq (.region [⟨(.l 14), .mv (.p 0), none⟩,
      ⟨(.l 15), .len .sl (.l 14), none⟩,
      ⟨(.l 16), .bin .gtr (.l 15) (.c (.int .i64 (256))), none⟩])
    (.cond (.l 16)
     (.seq (.region [⟨(.p 1), .mv (.c (.nilsl)), none⟩,
        ⟨(.p 2), .mv (.c (.int .i64 (5))), none⟩])
      (.ret))
     (.skip)))
   (.seq (.region [⟨(.l 17), .build [.str [], .int .i64 (0), .str []] [(0, 1, (.c (.str [110, 111, 110, 101])))], none⟩,
      ⟨(.p 3), .alloc 49 [.str [], .int .i64 (0), .str []], none⟩,
      ⟨.no, .store 3 (.p 3) (.l 17), none⟩])
    (.seq (.seq (.region [⟨(.p 11), .mv (.p 0), none⟩,
        ⟨(.p 12), .len .sl (.p 11), none⟩,
        ⟨(.p 13), .mv (.c (.int .i64 (0))), none⟩])
      (.block 0
       (.loop b49_0)))
     (.seq (.region [⟨(.l 40), .mv (.p 0), none⟩,
        ⟨(.l 41), .len .sl (.l 40), none⟩,
        ⟨(.l 42), .mkslice 3 1 8 [.int .i64 (0)] (.l 41) (.l 41), none⟩,
        ⟨(.p 6), .mv (.l 42), none⟩])
      (.seq (.region [⟨(.l 43), .mv (.p 0), none⟩,
         ⟨(.l 44), .call (.c (.fn (.func 130) [] [])) [(.l 43)], none⟩,
         ⟨(.p 7), .mv (.l 44), none⟩])
       (.seq (.region [⟨(.l 45), .mv (.p 7), none⟩,
          ⟨(.l 46), .call (.c (.fn (.func 131) [] [])) [(.l 45), (.c (.fn (.func 115) [] []))], none⟩])
        (.seq (.seq (.region [⟨(.p 14), .mv (.p 0), none⟩,
            ⟨(.p 15), .len .sl (.p 14), none⟩,
            ⟨(.p 16), .mv (.c (.int .i64 (0))), none⟩])
          (.block 2
           (.loop b49_1)))
         (.seq (.region [⟨(.l 69), .mv (.p 6), none⟩,
            ⟨(.p 1), .mv (.l 69), none⟩,
            ⟨(.p 2), .mv (.c (.int .i64 (0))), none⟩])
          (.ret)))))))))
theorem ft49 : FT 49 = some ⟨70, [0, 2, 3, 4, 6, 7, 8, 9, 10, 11, 12, 18, 19, 20, 47, 48, 49], [.var (.p 1), .var (.p 2)], b49⟩ := by kernel_rfl

def b48_0 : ICode :=
 .seq (.seq (.region [⟨(.l 9), .mv (.p 3), none⟩,
     ⟨(.l 10), .mv (.p 0), none⟩,
     ⟨(.l 11), .len .sl (.l 10), none⟩,
     ⟨(.l 12), .bin .lss (.l 9) (.l 11), none⟩])
   (.cond (.l 12)
    (.skip)
    (.exit 0)))
  (.seq (.block 1
    (.seq (.seq (.region [⟨(.l 15), .mv (.p 0), none⟩,
        ⟨(.l 16), .mv (.p 3), none⟩,
        ⟨(.l 17), .iaddr none 3 (.l 15) (.l 16), none⟩,
        ⟨(.l 18), .load 3 true (.l 17), none⟩,
        ⟨(.l 19), .call (.c (.fn (.func 35) [] [])) [(.l 18)], none⟩,
        ⟨(.p 4), .mv (.l 19), none⟩])
      (.seq (.region [⟨(.l 20), .mv (.p 4), none⟩,
         ⟨(.l 21), .bin .neq (.l 20) (.c (.int .i64 (0))), none⟩])
       (.cond (.l 21)
        (.seq (.region [⟨(.l 22), .mv (.p 4), none⟩,
           ⟨(.p 1), .mv (.l 22), none⟩])
         (.ret))
        (.skip))))
     (.seq (.seq (.region [⟨(.l 23), .mv (.p 0), none⟩,
         ⟨(.l 24), .mv (.p 3), none⟩,
         ⟨(.l 25), .iaddr none 3 (.l 23) (.l 24), none⟩,
         ⟨(.l 26), .faddr 0 (.l 25), none⟩,
         ⟨(.l 27), .load 1 false (.l 26), none⟩,
         ⟨(.l 28), .bin .eql (.l 27) (.c (.str [110, 111, 110, 101])), none⟩])
       (.cond (.l 28)
        (.exit 1)
        (.skip)))
      (.seq (.seq (.region [⟨(.l 29), .mv (.p 2), none⟩,
          ⟨(.l 30), .bin .neq (.l 29) (.c (.str [])), none⟩,
          ⟨(.l 31), .mv (.l 30), none⟩,
          ⟨(.l 32), .mv (.p 2), some ((.l 31), true)⟩,
          ⟨(.l 33), .mv (.p 0), some ((.l 31), true)⟩,
          ⟨(.l 34), .mv (.p 3), some ((.l 31), true)⟩,
          ⟨(.l 35), .iaddr none 3 (.l 33) (.l 34), some ((.l 31), true)⟩,
          ⟨(.l 36), .faddr 0 (.l 35), some ((.l 31), true)⟩,
          ⟨(.l 37), .load 1 false (.l 36), some ((.l 31), true)⟩,
          ⟨(.l 38), .bin .neq (.l 32) (.l 37), some ((.l 31), true)⟩,
          ⟨(.l 39), .pick (.l 31) (.l 38) (.c (.bool false)), none⟩])
        (.cond (.l 39)
         (.seq (.region [⟨(.p 1), .mv (.c (.int .i64 (13))), none⟩])
          (.ret))
         (.skip)))
       (.region [⟨(.l 40), .mv (.p 0), none⟩,
         ⟨(.l 41), .mv (.p 3), none⟩,
         ⟨(.l 42), .iaddr none 3 (.l 40) (.l 41), none⟩,
         ⟨(.l 43), .faddr 0 (.l 42), none⟩,
         ⟨(.l 44), .load 1 false (.l 43), none⟩,
         ⟨(.p 2), .mv (.l 44), none⟩])))))
   (.region [⟨(.l 13), .mv (.p 3), none⟩,
     ⟨(.l 14), .bin .add (.l 13) (.c (.int .i64 (1))), none⟩,
     ⟨(.p 3), .mv (.l 14), none⟩]))
/-- stadion/stadionref01.CheckMarks -/
def b48 : ICode :=
 .seq (.region [⟨(.p 1), .mv (.c (.int .i64 (0))), none⟩])
  (.seq (.seq (.region [⟨(.l 6), .mv (.p 0), none⟩,
      ⟨(.l 7), .len .sl (.l 6), none⟩,
      ⟨(.l 8), .bin .gtr (.l 7) (.c (.int .i64 (256))), none⟩])
    (.cond (.l 8)
     (.seq (.region [⟨(.p 1), .mv (.c (.int .i64 (5))), none⟩])
      (.ret))
     (.skip)))
   (.seq (.region [⟨(.p 2), .mv (.c (.str [])), none⟩])
    (.seq (.seq (.region [⟨(.p 3), .mv (.c (.int .i64 (0))), none⟩])
      (.block 0
       (.loop b48_0)))
     (.seq (.region [⟨(.p 1), .mv (.c (.int .i64 (0))), none⟩])
      (.ret)))))
theorem ft48 : FT 48 = some ⟨45, [0, 2, 3, 4, 5], [.var (.p 1)], b48⟩ := by kernel_rfl

/-- slices.Clone[[]stadion/api.Mark,stadion/api.Mark] -/
def b130 : ICode :=
 .seq (.region [⟨(.p 1), .mv (.c (.nilsl)), none⟩])
  (.seq (.seq (.region [⟨(.l 3), .mv (.p 0), none⟩,
      ⟨(.l 4), .eq false (.ref .slice) (.l 3) (.c (.nilsl)), none⟩])
    (.cond (.l 4)
     (.seq (.region [⟨(.p 1), .mv (.c (.nilsl)), none⟩])
      (.ret))
     (.skip)))
   (.seq (.region [⟨(.l 5), .bslice 49 0 3 [.str [], .int .i64 (0), .str []] [], none⟩,
      ⟨(.l 6), .mv (.p 0), none⟩,
      ⟨(.l 7), .append 49 3 40 (.l 5) (.l 6), none⟩,
      ⟨(.p 1), .mv (.l 7), none⟩])
    (.ret)))
theorem ft130 : FT 130 = some ⟨8, [0, 2], [.var (.p 1)], b130⟩ := by kernel_rfl

def b132_0 : ICode :=
 .seq (.seq (.region [⟨(.l 15), .mv (.p 7), none⟩,
     ⟨(.l 16), .mv (.p 8), none⟩,
     ⟨(.l 17), .bin .lss (.l 15) (.l 16), none⟩])
   (.cond (.l 17)
    (.skip)
    (.exit 0)))
  (.block 1
   (.seq (.region [⟨(.l 18), .mv (.p 7), none⟩,
      ⟨(.l 19), .mv (.p 8), none⟩,
      ⟨(.l 20), .bin .add (.l 18) (.l 19), none⟩,
      ⟨(.l 21), .convInt .u64 (.l 20), none⟩,
      ⟨(.l 22), .bin .shr (.l 21) (.c (.int .u64 (1))), none⟩,
      ⟨(.l 23), .convInt .i64 (.l 22), none⟩,
      ⟨(.p 9), .mv (.l 23), none⟩])
    (.seq (.draw [(⟨(.l 24), .mv (.p 2), none⟩, []),
       (⟨(.l 25), .mv (.p 0), none⟩, [0]),
       (⟨(.l 26), .mv (.p 9), none⟩, [0, 1]),
       (⟨(.l 27), .iaddr none 3 (.l 25) (.l 26), none⟩, [0]),
       (⟨(.l 28), .load 3 true (.l 27), none⟩, [0]),
       (⟨(.l 29), .load 3 true (.p 3), none⟩, [0, 1, 2, 3, 4]),
       (⟨(.l 30), .call (.l 24) [(.l 28), (.l 29)], none⟩, []),
       (⟨(.l 31), .bin .lss (.l 30) (.c (.int .i64 (0))), none⟩, [])])
     (.cond (.l 31)
      (.region [⟨(.l 32), .mv (.p 9), none⟩,
        ⟨(.l 33), .bin .add (.l 32) (.c (.int .i64 (1))), none⟩,
        ⟨(.p 7), .mv (.l 33), none⟩])
      (.region [⟨(.l 34), .mv (.p 9), none⟩,
        ⟨(.p 8), .mv (.l 34), none⟩])))))
/-- slices.BinarySearchFunc[[]stadion/api.Mark,stadion/api.Mark,stadion/api.Mark] -/
def b132 : ICode :=
 .seq (.region [⟨(.p 3), .box 49 3 (.p 1), none⟩,
    ⟨(.p 4), .mv (.c (.int .i64 (0))), none⟩,
    ⟨(.p 5), .mv (.c (.bool false)), none⟩])
  (.seq (.region [⟨(.l 12), .mv (.p 0), none⟩,
     ⟨(.l 13), .len .sl (.l 12), none⟩,
     ⟨(.p 6), .mv (.l 13), none⟩])
   (.seq (.region [⟨(.l 14), .mv (.p 6), none⟩,
      ⟨(.p 7), .mv (.c (.int .i64 (0))), none⟩,
      ⟨(.p 8), .mv (.l 14), none⟩])
    (.seq (.block 0
      (.loop b132_0))
     (.seq (.draw [(⟨(.l 35), .mv (.p 7), none⟩, []),
        (⟨(.l 36), .mv (.p 7), none⟩, [0]),
        (⟨(.l 37), .mv (.p 6), none⟩, [0, 1]),
        (⟨(.l 38), .bin .lss (.l 36) (.l 37), none⟩, [0]),
        (⟨(.l 39), .mv (.l 38), none⟩, [0]),
        (⟨(.l 40), .mv (.p 2), some ((.l 39), true)⟩, [0]),
        (⟨(.l 41), .mv (.p 0), some ((.l 39), true)⟩, [0, 5]),
        (⟨(.l 42), .mv (.p 7), some ((.l 39), true)⟩, [0, 5, 6]),
        (⟨(.l 43), .iaddr none 3 (.l 41) (.l 42), some ((.l 39), true)⟩, [0, 5]),
        (⟨(.l 44), .load 3 true (.l 43), some ((.l 39), true)⟩, [0, 5]),
        (⟨(.l 45), .load 3 true (.p 3), some ((.l 39), true)⟩, [0, 5, 6, 7, 8, 9]),
        (⟨(.l 46), .call (.l 40) [(.l 44), (.l 45)], some ((.l 39), true)⟩, [0]),
        (⟨(.l 47), .bin .eql (.l 46) (.c (.int .i64 (0))), some ((.l 39), true)⟩, [0]),
        (⟨(.l 48), .pick (.l 39) (.l 47) (.c (.bool false)), none⟩, [0]),
        (⟨(.p 4), .mv (.l 35), none⟩, [12, 13]),
        (⟨(.p 5), .mv (.l 48), none⟩, [])])
      (.ret)))))
theorem ft132 : FT 132 = some ⟨49, [0, 1, 2, 4, 6, 7, 8, 9, 10, 11], [.var (.p 4), .var (.p 5)], b132⟩ := by kernel_rfl

/-- slices.SortFunc[[]stadion/api.Mark,stadion/api.Mark] -/
def b131 : ICode :=
 .seq (.region [⟨(.l 5), .mv (.p 0), none⟩,
    ⟨(.l 6), .len .sl (.l 5), none⟩,
    ⟨(.p 2), .mv (.l 6), none⟩])
  (.region [⟨(.l 7), .mv (.p 0), none⟩,
    ⟨(.l 8), .mv (.p 2), none⟩,
    ⟨(.l 9), .mv (.p 2), none⟩,
    ⟨(.l 10), .convInt .u64 (.l 9), none⟩,
    ⟨(.l 11), .call (.c (.fn (.func 191) [] [])) [(.l 10)], none⟩,
    ⟨(.l 12), .mv (.p 1), none⟩,
    ⟨(.l 13), .call (.c (.fn (.func 190) [] [])) [(.l 7), (.c (.int .i64 (0))), (.l 8), (.l 11), (.l 12)], none⟩])
theorem ft131 : FT 131 = some ⟨14, [0, 1, 4], [], b131⟩ := by kernel_rfl

def b190_0 : ICode :=
 .block 1
  (.seq (.region [⟨(.l 21), .mv (.p 2), none⟩,
     ⟨(.l 22), .mv (.p 1), none⟩,
     ⟨(.l 23), .bin .sub (.l 21) (.l 22), none⟩,
     ⟨(.p 7), .mv (.l 23), none⟩])
   (.seq (.seq (.region [⟨(.l 24), .mv (.p 7), none⟩,
       ⟨(.l 25), .bin .leq (.l 24) (.c (.int .i64 (12))), none⟩])
     (.cond (.l 25)
      (.seq (.region [⟨(.l 26), .mv (.p 0), none⟩,
         ⟨(.l 27), .mv (.p 1), none⟩,
         ⟨(.l 28), .mv (.p 2), none⟩,
         ⟨(.l 29), .mv (.p 4), none⟩,
         ⟨(.l 30), .call (.c (.fn (.func 231) [] [])) [(.l 26), (.l 27), (.l 28), (.l 29)], none⟩])
       (.ret))
      (.skip)))
    (.seq (.seq (.region [⟨(.l 31), .mv (.p 3), none⟩,
        ⟨(.l 32), .bin .eql (.l 31) (.c (.int .i64 (0))), none⟩])
      (.cond (.l 32)
       (.seq (.region [⟨(.l 33), .mv (.p 0), none⟩,
          ⟨(.l 34), .mv (.p 1), none⟩,
          ⟨(.l 35), .mv (.p 2), none⟩,
          ⟨(.l 36), .mv (.p 4), none⟩,
          ⟨(.l 37), .call (.c (.fn (.func 232) [] [])) [(.l 33), (.l 34), (.l 35), (.l 36)], none⟩])
        (.ret))
       (.skip)))
     (.seq (.seq (.region [⟨(.l 38), .mv (.p 5), none⟩,
         ⟨(.l 39), .un .not (.l 38), none⟩])
       (.cond (.l 39)
        (.seq (.region [⟨(.l 40), .mv (.p 0), none⟩,
           ⟨(.l 41), .mv (.p 1), none⟩,
           ⟨(.l 42), .mv (.p 2), none⟩,
           ⟨(.l 43), .mv (.p 4), none⟩,
           ⟨(.l 44), .call (.c (.fn (.func 233) [] [])) [(.l 40), (.l 41), (.l 42), (.l 43)], none⟩])
         (.region [⟨(.l 45), .mv (.p 3), none⟩,
           ⟨(.l 46), .bin .sub (.l 45) (.c (.int .i64 (1))), none⟩,
           ⟨(.p 3), .mv (.l 46), none⟩]))
        (.skip)))
      (.seq (.region [⟨(.l 48), .mv (.p 0), none⟩,
         ⟨(.l 49), .mv (.p 1), none⟩,
         ⟨(.l 50), .mv (.p 2), none⟩,
         ⟨(.l 51), .mv (.p 4), none⟩,
         ⟨(.l 52), .call (.c (.fn (.func 234) [] [])) [(.l 48), (.l 49), (.l 50), (.l 51)], none⟩,
         ⟨(.l 47), .mv (.l 52), none⟩,
         ⟨(.l 53), .extract 0 (.l 47), none⟩,
         ⟨(.l 54), .extract 1 (.l 47), none⟩,
         ⟨(.p 8), .mv (.l 53), none⟩,
         ⟨(.p 9), .mv (.l 54), none⟩])
       (.seq (.seq (.region [⟨(.l 55), .mv (.p 9), none⟩,
           ⟨(.l 56), .bin .eql (.l 55) (.c (.int .i64 (2))), none⟩])
         (.cond (.l 56)
          (.seq (.region [⟨(.l 57), .mv (.p 0), none⟩,
             ⟨(.l 58), .mv (.p 1), none⟩,
             ⟨(.l 59), .mv (.p 2), none⟩,
             ⟨(.l 60), .mv (.p 4), none⟩,
             ⟨(.l 61), .call (.c (.fn (.func 235) [] [])) [(.l 57), (.l 58), (.l 59), (.l 60)], none⟩])
           (.seq (.region [⟨(.l 62), .mv (.p 2), none⟩,
              ⟨(.l 63), .bin .sub (.l 62) (.c (.int .i64 (1))), none⟩,
              ⟨(.l 64), .mv (.p 8), none⟩,
              ⟨(.l 65), .mv (.p 1), none⟩,
              ⟨(.l 66), .bin .sub (.l 64) (.l 65), none⟩,
              ⟨(.l 67), .bin .sub (.l 63) (.l 66), none⟩,
              ⟨(.p 8), .mv (.l 67), none⟩])
            (.region [⟨(.p 9), .mv (.c (.int .i64 (1))), none⟩])))
          (.skip)))
        (.seq (.seq (.region [⟨(.l 68), .mv (.p 5), none⟩,
            ⟨(.l 69), .mv (.l 68), none⟩,
            ⟨(.l 70), .mv (.p 6), some ((.l 69), true)⟩,
            ⟨(.l 71), .pick (.l 69) (.l 70) (.c (.bool false)), none⟩,
            ⟨(.l 72), .mv (.l 71), none⟩,
            ⟨(.l 73), .mv (.p 9), some ((.l 72), true)⟩,
            ⟨(.l 74), .bin .eql (.l 73) (.c (.int .i64 (1))), some ((.l 72), true)⟩,
            ⟨(.l 75), .pick (.l 72) (.l 74) (.c (.bool false)), none⟩])
          (.cond (.l 75)
           (.seq (.region [⟨(.l 76), .mv (.p 0), none⟩,
              ⟨(.l 77), .mv (.p 1), none⟩,
              ⟨(.l 78), .mv (.p 2), none⟩,
              ⟨(.l 79), .mv (.p 4), none⟩,
              ⟨(.l 80), .call (.c (.fn (.func 236) [] [])) [(.l 76), (.l 77), (.l 78), (.l 79)], none⟩])
            (.cond (.l 80)
             (.ret)
             (.skip)))
           (.skip)))
         (.seq (.seq (.draw [(⟨(.l 81), .mv (.p 1), none⟩, []),
             (⟨(.l 82), .bin .gtr (.l 81) (.c (.int .i64 (0))), none⟩, []),
             (⟨(.l 83), .mv (.l 82), none⟩, []),
             (⟨(.l 84), .mv (.p 4), some ((.l 83), true)⟩, []),
             (⟨(.l 85), .mv (.p 0), some ((.l 83), true)⟩, [3]),
             (⟨(.l 86), .mv (.p 1), some ((.l 83), true)⟩, [3, 4]),
             (⟨(.l 87), .bin .sub (.l 86) (.c (.int .i64 (1))), some ((.l 83), true)⟩, [3, 4]),
             (⟨(.l 88), .iaddr none 3 (.l 85) (.l 87), some ((.l 83), true)⟩, [3]),
             (⟨(.l 89), .load 3 true (.l 88), some ((.l 83), true)⟩, [3]),
             (⟨(.l 90), .mv (.p 0), some ((.l 83), true)⟩, [3, 4, 5, 6, 7, 8]),
             (⟨(.l 91), .mv (.p 8), some ((.l 83), true)⟩, [3, 4, 5, 6, 7, 8, 9]),
             (⟨(.l 92), .iaddr none 3 (.l 90) (.l 91), some ((.l 83), true)⟩, [3, 4, 5, 6, 7, 8]),
             (⟨(.l 93), .load 3 true (.l 92), some ((.l 83), true)⟩, [3, 4, 5, 6, 7, 8]),
             (⟨(.l 94), .call (.l 84) [(.l 89), (.l 93)], some ((.l 83), true)⟩, []),
             (⟨(.l 95), .bin .lss (.l 94) (.c (.int .i64 (0))), some ((.l 83), true)⟩, []),
             (⟨(.l 96), .un .not (.l 95), some ((.l 83), true)⟩, []),
             (⟨(.l 97), .pick (.l 83) (.l 96) (.c (.bool false)), none⟩, [])])
           (.cond (.l 97)
            (.seq (.region [⟨(.l 98), .mv (.p 0), none⟩,
               ⟨(.l 99), .mv (.p 1), none⟩,
               ⟨(.l 100), .mv (.p 2), none⟩,
               ⟨(.l 101), .mv (.p 8), none⟩,
               ⟨(.l 102), .mv (.p 4), none⟩,
               ⟨(.l 103), .call (.c (.fn (.func 237) [] [])) [(.l 98), (.l 99), (.l 100), (.l 101), (.l 102)], none⟩,
               ⟨(.p 10), .mv (.l 103), none⟩])
             (.seq (.region [⟨(.l 104), .mv (.p 10), none⟩,
                ⟨(.p 1), .mv (.l 104), none⟩])
              (.exit 1)))
            (.skip)))
          (.seq (.region [⟨(.l 106), .mv (.p 0), none⟩,
             ⟨(.l 107), .mv (.p 1), none⟩,
             ⟨(.l 108), .mv (.p 2), none⟩,
             ⟨(.l 109), .mv (.p 8), none⟩,
             ⟨(.l 110), .mv (.p 4), none⟩,
             ⟨(.l 111), .call (.c (.fn (.func 238) [] [])) [(.l 106), (.l 107), (.l 108), (.l 109), (.l 110)], none⟩,
             ⟨(.l 105), .mv (.l 111), none⟩,
             ⟨(.l 112), .extract 0 (.l 105), none⟩,
             ⟨(.l 113), .extract 1 (.l 105), none⟩,
             ⟨(.p 11), .mv (.l 112), none⟩,
             ⟨(.p 12), .mv (.l 113), none⟩])
           (.seq (.region [⟨(.l 114), .mv (.p 12), none⟩,
              ⟨(.p 6), .mv (.l 114), none⟩])
            (.seq (.region [⟨(.l 115), .mv (.p 11), none⟩,
               ⟨(.l 116), .mv (.p 1), none⟩,
               ⟨(.l 117), .bin .sub (.l 115) (.l 116), none⟩,
               ⟨(.l 118), .mv (.p 2), none⟩,
               ⟨(.l 119), .mv (.p 11), none⟩,
               ⟨(.l 120), .bin .sub (.l 118) (.l 119), none⟩,
               ⟨(.p 13), .mv (.l 117), none⟩,
               ⟨(.p 14), .mv (.l 120), none⟩])
             (.seq (.region [⟨(.l 121), .mv (.p 7), none⟩,
                ⟨(.l 122), .bin .quo (.l 121) (.c (.int .i64 (8))), none⟩,
                ⟨(.p 15), .mv (.l 122), none⟩])
              (.seq (.region [⟨(.l 123), .mv (.p 13), none⟩,
                 ⟨(.l 124), .mv (.p 14), none⟩,
                 ⟨(.l 125), .bin .lss (.l 123) (.l 124), none⟩])
               (.cond (.l 125)
                (.seq (.region [⟨(.l 126), .mv (.p 13), none⟩,
                   ⟨(.l 127), .mv (.p 15), none⟩,
                   ⟨(.l 128), .bin .geq (.l 126) (.l 127), none⟩,
                   ⟨(.p 5), .mv (.l 128), none⟩])
                 (.seq (.region [⟨(.l 129), .mv (.p 0), none⟩,
                    ⟨(.l 130), .mv (.p 1), none⟩,
                    ⟨(.l 131), .mv (.p 11), none⟩,
                    ⟨(.l 132), .mv (.p 3), none⟩,
                    ⟨(.l 133), .mv (.p 4), none⟩,
                    ⟨(.l 134), .call (.c (.fn (.func 190) [] [])) [(.l 129), (.l 130), (.l 131), (.l 132), (.l 133)], none⟩])
                  (.region [⟨(.l 135), .mv (.p 11), none⟩,
                    ⟨(.l 136), .bin .add (.l 135) (.c (.int .i64 (1))), none⟩,
                    ⟨(.p 1), .mv (.l 136), none⟩])))
                (.seq (.region [⟨(.l 137), .mv (.p 14), none⟩,
                   ⟨(.l 138), .mv (.p 15), none⟩,
                   ⟨(.l 139), .bin .geq (.l 137) (.l 138), none⟩,
                   ⟨(.p 5), .mv (.l 139), none⟩])
                 (.seq (.region [⟨(.l 140), .mv (.p 0), none⟩,
                    ⟨(.l 141), .mv (.p 11), none⟩,
                    ⟨(.l 142), .bin .add (.l 141) (.c (.int .i64 (1))), none⟩,
                    ⟨(.l 143), .mv (.p 2), none⟩,
                    ⟨(.l 144), .mv (.p 3), none⟩,
                    ⟨(.l 145), .mv (.p 4), none⟩,
                    ⟨(.l 146), .call (.c (.fn (.func 190) [] [])) [(.l 140), (.l 142), (.l 143), (.l 144), (.l 145)], none⟩])
                  (.region [⟨(.l 147), .mv (.p 11), none⟩,
                    ⟨(.p 2), .mv (.l 147), none⟩])))))))))))))))))
/-- slices.pdqsortCmpFunc[stadion/api.Mark] -/
def b190 : ICode :=
 .seq (.region [⟨(.p 5), .mv (.c (.bool true)), none⟩])
  (.seq (.region [⟨(.p 6), .mv (.c (.bool true)), none⟩])
   (.block 0
    (.loop b190_0)))
theorem ft190 : FT 190 = some ⟨148, [0, 1, 2, 3, 4, 10, 11, 12, 13, 14, 15, 16, 17, 18, 19, 20], [], b190⟩ := by kernel_rfl

/-- math/bits.Len -/
def b191 : ICode :=
 .seq (.region [⟨(.p 1), .mv (.c (.int .i64 (0))), none⟩])
  (.seq (.cond (.c (.bool false))
    (.seq (.region [⟨(.l 3), .mv (.p 0), none⟩,
       ⟨(.l 4), .convInt .u32 (.l 3), none⟩,
       ⟨(.l 5), .call (.c (.fn (.func 239) [] [])) [(.l 4)], none⟩,
       ⟨(.p 1), .mv (.l 5), none⟩])
     (.ret))
    (.skip))
   (.seq (.region [⟨(.l 6), .mv (.p 0), none⟩,
      ⟨(.l 7), .call (.c (.fn (.func 240) [] [])) [(.l 6)], none⟩,
      ⟨(.p 1), .mv (.l 7), none⟩])
    (.ret)))
theorem ft191 : FT 191 = some ⟨8, [0, 2], [.var (.p 1)], b191⟩ := by kernel_rfl

/-- math/bits.Len64 -/
def b240 : ICode :=
 .seq (.region [⟨(.p 1), .mv (.c (.int .i64 (0))), none⟩])
  (.seq (.seq (.region [⟨(.l 3), .mv (.p 0), none⟩,
      ⟨(.l 4), .bin .geq (.l 3) (.c (.int .u64 (4294967296))), none⟩])
    (.cond (.l 4)
     (.seq (.region [⟨(.l 5), .mv (.p 0), none⟩,
        ⟨(.l 6), .bin .shr (.l 5) (.c (.int .u64 (32))), none⟩,
        ⟨(.p 0), .mv (.l 6), none⟩])
      (.region [⟨(.p 1), .mv (.c (.int .i64 (32))), none⟩]))
     (.skip)))
   (.seq (.seq (.region [⟨(.l 7), .mv (.p 0), none⟩,
       ⟨(.l 8), .bin .geq (.l 7) (.c (.int .u64 (65536))), none⟩])
     (.cond (.l 8)
      (.seq (.region [⟨(.l 9), .mv (.p 0), none⟩,
         ⟨(.l 10), .bin .shr (.l 9) (.c (.int .u64 (16))), none⟩,
         ⟨(.p 0), .mv (.l 10), none⟩])
       (.region [⟨(.l 11), .mv (.p 1), none⟩,
         ⟨(.l 12), .bin .add (.l 11) (.c (.int .i64 (16))), none⟩,
         ⟨(.p 1), .mv (.l 12), none⟩]))
      (.skip)))
    (.seq (.seq (.region [⟨(.l 13), .mv (.p 0), none⟩,
        ⟨(.l 14), .bin .geq (.l 13) (.c (.int .u64 (256))), none⟩])
      (.cond (.l 14)
       (.seq (.region [⟨(.l 15), .mv (.p 0), none⟩,
          ⟨(.l 16), .bin .shr (.l 15) (.c (.int .u64 (8))), none⟩,
          ⟨(.p 0), .mv (.l 16), none⟩])
        (.region [⟨(.l 17), .mv (.p 1), none⟩,
          ⟨(.l 18), .bin .add (.l 17) (.c (.int .i64 (8))), none⟩,
          ⟨(.p 1), .mv (.l 18), none⟩]))
       (.skip)))
     (.seq (.region [⟨(.l 19), .mv (.p 1), none⟩,
        ⟨(.l 20), .mv (.p 0), none⟩,
        ⟨(.l 21), .convInt .u8 (.l 20), none⟩,
        ⟨(.l 22), .index (.c (.str [0, 1, 2, 2, 3, 3, 3, 3, 4, 4, 4, 4, 4, 4, 4, 4, 5, 5, 5, 5, 5, 5, 5, 5, 5, 5, 5, 5, 5, 5, 5, 5, 6, 6, 6, 6, 6, 6, 6, 6, 6, 6, 6, 6, 6, 6, 6, 6, 6, 6, 6, 6, 6, 6, 6, 6, 6, 6, 6, 6, 6, 6, 6, 6, 7, 7, 7, 7, 7, 7, 7, 7, 7, 7, 7, 7, 7, 7, 7, 7, 7, 7, 7, 7, 7, 7, 7, 7, 7, 7, 7, 7, 7, 7, 7, 7, 7, 7, 7, 7, 7, 7, 7, 7, 7, 7, 7, 7, 7, 7, 7, 7, 7, 7, 7, 7, 7, 7, 7, 7, 7, 7, 7, 7, 7, 7, 7, 7, 8, 8, 8, 8, 8, 8, 8, 8, 8, 8, 8, 8, 8, 8, 8, 8, 8, 8, 8, 8, 8, 8, 8, 8, 8, 8, 8, 8, 8, 8, 8, 8, 8, 8, 8, 8, 8, 8, 8, 8, 8, 8, 8, 8, 8, 8, 8, 8, 8, 8, 8, 8, 8, 8, 8, 8, 8, 8, 8, 8, 8, 8, 8, 8, 8, 8, 8, 8, 8, 8, 8, 8, 8, 8, 8, 8, 8, 8, 8, 8, 8, 8, 8, 8, 8, 8, 8, 8, 8, 8, 8, 8, 8, 8, 8, 8, 8, 8, 8, 8, 8, 8, 8, 8, 8, 8, 8, 8, 8, 8, 8, 8, 8, 8, 8, 8, 8, 8, 8, 8, 8, 8, 8, 8, 8, 8, 8, 8])) (.l 21), none⟩,
        ⟨(.l 23), .convInt .i64 (.l 22), none⟩,
        ⟨(.l 24), .bin .add (.l 19) (.l 23), none⟩,
        ⟨(.p 1), .mv (.l 24), none⟩])
      (.ret)))))
theorem ft240 : FT 240 = some ⟨25, [0, 2], [.var (.p 1)], b240⟩ := by kernel_rfl

def b231_0 : ICode :=
 .seq (.seq (.draw [(⟨(.l 18), .mv (.p 5), none⟩, []),
     (⟨(.l 19), .mv (.p 1), none⟩, [0]),
     (⟨(.l 20), .bin .gtr (.l 18) (.l 19), none⟩, []),
     (⟨(.l 21), .mv (.l 20), none⟩, []),
     (⟨(.l 22), .mv (.p 3), some ((.l 21), true)⟩, []),
     (⟨(.l 23), .mv (.p 0), some ((.l 21), true)⟩, [4]),
     (⟨(.l 24), .mv (.p 5), some ((.l 21), true)⟩, [4, 5]),
     (⟨(.l 25), .iaddr none 3 (.l 23) (.l 24), some ((.l 21), true)⟩, [4]),
     (⟨(.l 26), .load 3 true (.l 25), some ((.l 21), true)⟩, [4]),
     (⟨(.l 27), .mv (.p 0), some ((.l 21), true)⟩, [4, 5, 6, 7, 8]),
     (⟨(.l 28), .mv (.p 5), some ((.l 21), true)⟩, [4, 5, 6, 7, 8, 9]),
     (⟨(.l 29), .bin .sub (.l 28) (.c (.int .i64 (1))), some ((.l 21), true)⟩, [4, 5, 6, 7, 8, 9]),
     (⟨(.l 30), .iaddr none 3 (.l 27) (.l 29), some ((.l 21), true)⟩, [4, 5, 6, 7, 8]),
     (⟨(.l 31), .load 3 true (.l 30), some ((.l 21), true)⟩, [4, 5, 6, 7, 8]),
     (⟨(.l 32), .call (.l 22) [(.l 26), (.l 31)], some ((.l 21), true)⟩, []),
     (⟨(.l 33), .bin .lss (.l 32) (.c (.int .i64 (0))), some ((.l 21), true)⟩, []),
     (⟨(.l 34), .pick (.l 21) (.l 33) (.c (.bool false)), none⟩, [])])
   (.cond (.l 34)
    (.skip)
    (.exit 2)))
  (.seq (.block 3
    (.draw [(⟨(.l 37), .mv (.p 0), none⟩, []),
      (⟨(.l 38), .mv (.p 5), none⟩, [0]),
      (⟨(.l 39), .mv (.p 0), none⟩, [0, 1]),
      (⟨(.l 40), .mv (.p 5), none⟩, [0, 1, 2]),
      (⟨(.l 41), .bin .sub (.l 40) (.c (.int .i64 (1))), none⟩, [0, 1, 2]),
      (⟨(.l 42), .mv (.p 0), none⟩, [0, 1, 2, 3, 4]),
      (⟨(.l 43), .mv (.p 5), none⟩, [0, 1, 2, 3, 4, 5]),
      (⟨(.l 44), .bin .sub (.l 43) (.c (.int .i64 (1))), none⟩, [0, 1, 2, 3, 4, 5]),
      (⟨(.l 45), .iaddr none 3 (.l 42) (.l 44), none⟩, [0, 1, 2, 3, 4]),
      (⟨(.l 46), .load 3 true (.l 45), none⟩, [0, 1, 2, 3, 4]),
      (⟨(.l 47), .mv (.p 0), none⟩, [0, 1, 2, 3, 4, 5, 6, 7, 8, 9]),
      (⟨(.l 48), .mv (.p 5), none⟩, [0, 1, 2, 3, 4, 5, 6, 7, 8, 9, 10]),
      (⟨(.l 49), .iaddr none 3 (.l 47) (.l 48), none⟩, [0, 1, 2, 3, 4, 5, 6, 7, 8, 9]),
      (⟨(.l 50), .load 3 true (.l 49), none⟩, [0, 1, 2, 3, 4, 5, 6, 7, 8, 9]),
      (⟨(.l 51), .iaddr none 3 (.l 37) (.l 38), none⟩, [2, 3, 4]),
      (⟨.no, .store 3 (.l 51) (.l 46), none⟩, [2, 3, 4]),
      (⟨(.l 52), .iaddr none 3 (.l 39) (.l 41), none⟩, []),
      (⟨.no, .store 3 (.l 52) (.l 50), none⟩, [])]))
   (.region [⟨(.l 35), .mv (.p 5), none⟩,
     ⟨(.l 36), .bin .sub (.l 35) (.c (.int .i64 (1))), none⟩,
     ⟨(.p 5), .mv (.l 36), none⟩]))
def b231_1 : ICode :=
 .seq (.seq (.region [⟨(.l 12), .mv (.p 4), none⟩,
     ⟨(.l 13), .mv (.p 2), none⟩,
     ⟨(.l 14), .bin .lss (.l 12) (.l 13), none⟩])
   (.cond (.l 14)
    (.skip)
    (.exit 0)))
  (.seq (.block 1
    (.seq (.region [⟨(.l 17), .mv (.p 4), none⟩,
       ⟨(.p 5), .mv (.l 17), none⟩])
     (.block 2
      (.loop b231_0))))
   (.region [⟨(.l 15), .mv (.p 4), none⟩,
     ⟨(.l 16), .bin .add (.l 15) (.c (.int .i64 (1))), none⟩,
     ⟨(.p 4), .mv (.l 16), none⟩]))
/-- slices.insertionSortCmpFunc[stadion/api.Mark] -/
def b231 : ICode :=
 .seq (.region [⟨(.l 10), .mv (.p 1), none⟩,
    ⟨(.l 11), .bin .add (.l 10) (.c (.int .i64 (1))), none⟩,
    ⟨(.p 4), .mv (.l 11), none⟩])
  (.block 0
   (.loop b231_1))
theorem ft231 : FT 231 = some ⟨53, [0, 1, 2, 3, 8, 9], [], b231⟩ := by kernel_rfl

def b13_0 : ICode :=
 .seq (.region [⟨(.l 68), .bin .lss (.p 26) (.p 25), none⟩])
  (.seq (.cond (.l 68)
    (.skip)
    (.exit 0))
   (.seq (.block 1
     (.seq (.region [⟨(.l 69), .iaddr none 1 (.p 24) (.p 26), none⟩,
        ⟨(.l 70), .load 1 false (.l 69), none⟩,
        ⟨(.p 7), .mv (.l 70), none⟩])
      (.region [⟨(.l 71), .mv (.p 6), none⟩,
        ⟨(.l 72), .mv (.p 0), none⟩,
        ⟨(.l 73), .mv (.p 7), none⟩,
        ⟨(.l 74), .iaddr none 3 (.l 72) (.l 73), none⟩,
        ⟨(.l 75), .load 3 true (.l 74), none⟩,
        ⟨(.l 76), .bslice 49 1 3 [.str [], .int .i64 (0), .str []] [(0, 3, (.l 75))], none⟩,
        ⟨(.l 77), .append 49 3 40 (.l 71) (.l 76), none⟩,
        ⟨(.p 6), .mv (.l 77), none⟩])))
    (.region [⟨(.l 78), .bin .add (.p 26) (.c (.int .i64 (1))), none⟩,
      ⟨(.p 26), .mv (.l 78), none⟩])))
def b13_1 : ICode :=
 .seq (.region [⟨(.l 96), .bin .lss (.p 29) (.p 28), none⟩])
  (.seq (.cond (.l 96)
    (.skip)
    (.exit 2))
   (.seq (.block 3
     (.seq (.region [⟨(.l 97), .mv (.p 29), none⟩,
        ⟨(.l 98), .iaddr none 1 (.p 27) (.p 29), none⟩,
        ⟨(.l 99), .load 1 false (.l 98), none⟩,
        ⟨(.p 10), .mv (.l 97), none⟩,
        ⟨(.p 11), .mv (.l 99), none⟩])
      (.seq (.draw [(⟨(.l 100), .mv (.p 8), none⟩, []),
         (⟨(.l 101), .mv (.p 10), none⟩, [0]),
         (⟨(.l 102), .iaddr none 1 (.l 100) (.l 101), none⟩, []),
         (⟨(.l 103), .load 1 false (.l 102), none⟩, []),
         (⟨(.l 104), .mv (.p 3), none⟩, [0, 1, 2, 3]),
         (⟨(.l 105), .mv (.p 11), none⟩, [0, 1, 2, 3, 4]),
         (⟨(.l 106), .iaddr none 1 (.l 104) (.l 105), none⟩, [0, 1, 2, 3]),
         (⟨(.l 107), .load 1 false (.l 106), none⟩, [0, 1, 2, 3]),
         (⟨(.l 108), .bin .neq (.l 103) (.l 107), none⟩, [])])
       (.cond (.l 108)
        (.seq (.region [⟨(.p 2), .mv (.c (.bool false)), none⟩])
         (.ret))
        (.skip)))))
    (.region [⟨(.l 109), .bin .add (.p 29) (.c (.int .i64 (1))), none⟩,
      ⟨(.p 29), .mv (.l 109), none⟩])))
def b13_2 : ICode :=
 .seq (.region [⟨(.l 165), .bin .lss (.p 35) (.p 34), none⟩])
  (.seq (.cond (.l 165)
    (.skip)
    (.exit 8))
   (.seq (.block 9
     (.seq (.region [⟨(.l 166), .mv (.p 35), none⟩,
        ⟨(.p 19), .mv (.l 166), none⟩])
      (.seq (.draw [(⟨(.l 168), .mv (.p 0), none⟩, []),
         (⟨(.l 169), .mv (.p 14), none⟩, [0]),
         (⟨(.l 170), .iaddr none 3 (.l 168) (.l 169), none⟩, []),
         (⟨(.l 171), .load 3 true (.l 170), none⟩, []),
         (⟨(.l 172), .mv (.p 0), none⟩, [0, 1, 2, 3]),
         (⟨(.l 173), .mv (.p 19), none⟩, [0, 1, 2, 3, 4]),
         (⟨(.l 174), .iaddr none 3 (.l 172) (.l 173), none⟩, [0, 1, 2, 3]),
         (⟨(.l 175), .load 3 true (.l 174), none⟩, [0, 1, 2, 3]),
         (⟨(.l 176), .call (.c (.fn (.func 37) [] [])) [(.l 171), (.l 175)], none⟩, []),
         (⟨(.l 167), .mv (.l 176), none⟩, []),
         (⟨(.l 177), .extract 0 (.l 167), none⟩, []),
         (⟨(.l 178), .extract 1 (.l 167), none⟩, [10]),
         (⟨(.p 20), .mv (.l 177), none⟩, [11]),
         (⟨(.p 21), .mv (.l 178), none⟩, [])])
       (.seq (.draw [(⟨(.l 180), .mv (.p 0), none⟩, []),
          (⟨(.l 181), .mv (.p 12), none⟩, [0]),
          (⟨(.l 182), .iaddr none 3 (.l 180) (.l 181), none⟩, []),
          (⟨(.l 183), .load 3 true (.l 182), none⟩, []),
          (⟨(.l 184), .mv (.p 0), none⟩, [0, 1, 2, 3]),
          (⟨(.l 185), .mv (.p 19), none⟩, [0, 1, 2, 3, 4]),
          (⟨(.l 186), .iaddr none 3 (.l 184) (.l 185), none⟩, [0, 1, 2, 3]),
          (⟨(.l 187), .load 3 true (.l 186), none⟩, [0, 1, 2, 3]),
          (⟨(.l 188), .call (.c (.fn (.func 37) [] [])) [(.l 183), (.l 187)], none⟩, []),
          (⟨(.l 179), .mv (.l 188), none⟩, []),
          (⟨(.l 189), .extract 0 (.l 179), none⟩, []),
          (⟨(.l 190), .extract 1 (.l 179), none⟩, [10]),
          (⟨(.p 22), .mv (.l 189), none⟩, [11]),
          (⟨(.p 23), .mv (.l 190), none⟩, [])])
        (.seq (.region [⟨(.l 191), .mv (.p 21), none⟩,
           ⟨(.l 192), .mv (.p 23), none⟩,
           ⟨(.l 193), .bin .add (.l 191) (.l 192), none⟩,
           ⟨(.l 194), .bin .neq (.l 193) (.c (.int .i64 (0))), none⟩,
           ⟨(.l 195), .mv (.l 194), none⟩,
           ⟨(.l 196), .mv (.p 15), some ((.l 195), false)⟩,
           ⟨(.l 197), .bin .leq (.l 196) (.c (.int .i64 (0))), some ((.l 195), false)⟩,
           ⟨(.l 198), .mv (.l 197), some ((.l 195), false)⟩,
           ⟨(.l 199), .mv (.p 20), some ((.l 198), true)⟩,
           ⟨(.l 200), .bin .leq (.l 199) (.c (.int .i64 (0))), some ((.l 198), true)⟩,
           ⟨(.l 201), .pick (.l 198) (.l 200) (.c (.bool false)), some ((.l 195), false)⟩,
           ⟨(.l 202), .mv (.l 201), some ((.l 195), false)⟩,
           ⟨(.l 203), .mv (.p 22), some ((.l 202), true)⟩,
           ⟨(.l 204), .bin .gtr (.l 203) (.c (.int .i64 (0))), some ((.l 202), true)⟩,
           ⟨(.l 205), .pick (.l 202) (.l 204) (.c (.bool false)), some ((.l 195), false)⟩,
           ⟨(.l 206), .pick (.l 195) (.c (.bool true)) (.l 205), none⟩])
         (.cond (.l 206)
          (.seq (.region [⟨(.p 2), .mv (.c (.bool false)), none⟩])
           (.ret))
          (.skip)))))))
    (.region [⟨(.l 207), .bin .add (.p 35) (.c (.int .i64 (1))), none⟩,
      ⟨(.p 35), .mv (.l 207), none⟩])))
def b13_3 : ICode :=
 .seq (.region [⟨(.l 118), .bin .lss (.p 33) (.p 32), none⟩])
  (.seq (.cond (.l 118)
    (.skip)
    (.exit 6))
   (.seq (.block 7
     (.seq (.region [⟨(.l 119), .mv (.p 33), none⟩,
        ⟨(.p 14), .mv (.l 119), none⟩])
      (.seq (.draw [(⟨(.l 121), .mv (.p 0), none⟩, []),
         (⟨(.l 122), .mv (.p 12), none⟩, [0]),
         (⟨(.l 123), .iaddr none 3 (.l 121) (.l 122), none⟩, []),
         (⟨(.l 124), .load 3 true (.l 123), none⟩, []),
         (⟨(.l 125), .mv (.p 0), none⟩, [0, 1, 2, 3]),
         (⟨(.l 126), .mv (.p 14), none⟩, [0, 1, 2, 3, 4]),
         (⟨(.l 127), .iaddr none 3 (.l 125) (.l 126), none⟩, [0, 1, 2, 3]),
         (⟨(.l 128), .load 3 true (.l 127), none⟩, [0, 1, 2, 3]),
         (⟨(.l 129), .call (.c (.fn (.func 37) [] [])) [(.l 124), (.l 128)], none⟩, []),
         (⟨(.l 120), .mv (.l 129), none⟩, []),
         (⟨(.l 130), .extract 0 (.l 120), none⟩, []),
         (⟨(.l 131), .extract 1 (.l 120), none⟩, [10]),
         (⟨(.p 15), .mv (.l 130), none⟩, [11]),
         (⟨(.p 16), .mv (.l 131), none⟩, [])])
       (.seq (.draw [(⟨(.l 133), .mv (.p 0), none⟩, []),
          (⟨(.l 134), .mv (.p 14), none⟩, [0]),
          (⟨(.l 135), .iaddr none 3 (.l 133) (.l 134), none⟩, []),
          (⟨(.l 136), .load 3 true (.l 135), none⟩, []),
          (⟨(.l 137), .mv (.p 0), none⟩, [0, 1, 2, 3]),
          (⟨(.l 138), .mv (.p 12), none⟩, [0, 1, 2, 3, 4]),
          (⟨(.l 139), .iaddr none 3 (.l 137) (.l 138), none⟩, [0, 1, 2, 3]),
          (⟨(.l 140), .load 3 true (.l 139), none⟩, [0, 1, 2, 3]),
          (⟨(.l 141), .call (.c (.fn (.func 37) [] [])) [(.l 136), (.l 140)], none⟩, []),
          (⟨(.l 132), .mv (.l 141), none⟩, []),
          (⟨(.l 142), .extract 0 (.l 132), none⟩, []),
          (⟨(.l 143), .extract 1 (.l 132), none⟩, [10]),
          (⟨(.p 17), .mv (.l 142), none⟩, [11]),
          (⟨(.p 18), .mv (.l 143), none⟩, [])])
        (.seq (.seq (.region [⟨(.l 144), .mv (.p 16), none⟩,
            ⟨(.l 145), .mv (.p 18), none⟩,
            ⟨(.l 146), .bin .add (.l 144) (.l 145), none⟩,
            ⟨(.l 147), .bin .neq (.l 146) (.c (.int .i64 (0))), none⟩,
            ⟨(.l 148), .mv (.l 147), none⟩,
            ⟨(.l 149), .mv (.p 15), some ((.l 148), false)⟩,
            ⟨(.l 150), .mv (.p 17), some ((.l 148), false)⟩,
            ⟨(.l 151), .un .neg (.l 150), some ((.l 148), false)⟩,
            ⟨(.l 152), .bin .neq (.l 149) (.l 151), some ((.l 148), false)⟩,
            ⟨(.l 153), .pick (.l 148) (.c (.bool true)) (.l 152), none⟩,
            ⟨(.l 154), .mv (.l 153), none⟩,
            ⟨(.l 155), .mv (.p 15), some ((.l 154), false)⟩,
            ⟨(.l 156), .bin .lss (.l 155) (.c (.int .i64 (-1))), some ((.l 154), false)⟩,
            ⟨(.l 157), .pick (.l 154) (.c (.bool true)) (.l 156), none⟩,
            ⟨(.l 158), .mv (.l 157), none⟩,
            ⟨(.l 159), .mv (.p 15), some ((.l 158), false)⟩,
            ⟨(.l 160), .bin .gtr (.l 159) (.c (.int .i64 (1))), some ((.l 158), false)⟩,
            ⟨(.l 161), .pick (.l 158) (.c (.bool true)) (.l 160), none⟩])
          (.cond (.l 161)
           (.seq (.region [⟨(.p 2), .mv (.c (.bool false)), none⟩])
            (.ret))
           (.skip)))
         (.seq (.seq (.region [⟨(.l 162), .mv (.p 0), none⟩,
             ⟨(.p 34), .len .sl (.l 162), none⟩,
             ⟨(.p 35), .mv (.c (.int .i64 (0))), none⟩])
           (.block 8
            (.loop b13_2)))
          (.seq (.seq (.region [⟨(.l 208), .mv (.p 17), none⟩,
              ⟨(.l 209), .bin .lss (.l 208) (.c (.int .i64 (0))), none⟩])
            (.cond (.l 209)
             (.region [⟨(.l 210), .mv (.p 13), none⟩,
               ⟨(.l 211), .bin .add (.l 210) (.c (.int .i64 (1))), none⟩,
               ⟨(.p 13), .mv (.l 211), none⟩])
             (.skip)))
           (.seq (.seq (.draw [(⟨(.l 212), .mv (.p 0), none⟩, []),
               (⟨(.l 213), .mv (.p 12), none⟩, [0]),
               (⟨(.l 214), .iaddr none 3 (.l 212) (.l 213), none⟩, []),
               (⟨(.l 215), .faddr 0 (.l 214), none⟩, []),
               (⟨(.l 216), .load 1 false (.l 215), none⟩, []),
               (⟨(.l 217), .bin .neq (.l 216) (.c (.str [110, 111, 110, 101])), none⟩, []),
               (⟨(.l 218), .mv (.l 217), none⟩, []),
               (⟨(.l 219), .mv (.p 0), some ((.l 218), true)⟩, []),
               (⟨(.l 220), .mv (.p 14), some ((.l 218), true)⟩, [7]),
               (⟨(.l 221), .iaddr none 3 (.l 219) (.l 220), some ((.l 218), true)⟩, []),
               (⟨(.l 222), .faddr 0 (.l 221), some ((.l 218), true)⟩, []),
               (⟨(.l 223), .load 1 false (.l 222), some ((.l 218), true)⟩, []),
               (⟨(.l 224), .bin .neq (.l 223) (.c (.str [110, 111, 110, 101])), some ((.l 218), true)⟩, []),
               (⟨(.l 225), .pick (.l 218) (.l 224) (.c (.bool false)), none⟩, []),
               (⟨(.l 226), .mv (.l 225), none⟩, []),
               (⟨(.l 227), .mv (.p 15), some ((.l 226), true)⟩, []),
               (⟨(.l 228), .bin .lss (.l 227) (.c (.int .i64 (0))), some ((.l 226), true)⟩, []),
               (⟨(.l 229), .mv (.p 3), some ((.l 226), true)⟩, [15, 16]),
               (⟨(.l 230), .mv (.p 12), some ((.l 226), true)⟩, [15, 16, 17]),
               (⟨(.l 231), .iaddr none 1 (.l 229) (.l 230), some ((.l 226), true)⟩, [15, 16]),
               (⟨(.l 232), .load 1 false (.l 231), some ((.l 226), true)⟩, [15, 16]),
               (⟨(.l 233), .mv (.p 3), some ((.l 226), true)⟩, [15, 16, 17, 18, 19, 20]),
               (⟨(.l 234), .mv (.p 14), some ((.l 226), true)⟩, [15, 16, 17, 18, 19, 20, 21]),
               (⟨(.l 235), .iaddr none 1 (.l 233) (.l 234), some ((.l 226), true)⟩, [15, 16, 17, 18, 19, 20]),
               (⟨(.l 236), .load 1 false (.l 235), some ((.l 226), true)⟩, [15, 16, 17, 18, 19, 20]),
               (⟨(.l 237), .bin .lss (.l 232) (.l 236), some ((.l 226), true)⟩, [15, 16]),
               (⟨(.l 238), .eq true .bool (.l 228) (.l 237), some ((.l 226), true)⟩, []),
               (⟨(.l 239), .pick (.l 226) (.l 238) (.c (.bool false)), none⟩, [])])
             (.cond (.l 239)
              (.seq (.region [⟨(.p 2), .mv (.c (.bool false)), none⟩])
               (.ret))
              (.skip)))
            (.seq (.region [⟨(.l 240), .mv (.p 0), none⟩,
               ⟨(.l 241), .mv (.p 12), none⟩,
               ⟨(.l 242), .iaddr none 3 (.l 240) (.l 241), none⟩,
               ⟨(.l 243), .faddr 0 (.l 242), none⟩,
               ⟨(.l 244), .load 1 false (.l 243), none⟩,
               ⟨(.l 245), .bin .neq (.l 244) (.c (.str [110, 111, 110, 101])), none⟩,
               ⟨(.l 246), .mv (.l 245), none⟩,
               ⟨(.l 247), .mv (.p 0), some ((.l 246), true)⟩,
               ⟨(.l 248), .mv (.p 14), some ((.l 246), true)⟩,
               ⟨(.l 249), .iaddr none 3 (.l 247) (.l 248), some ((.l 246), true)⟩,
               ⟨(.l 250), .faddr 0 (.l 249), some ((.l 246), true)⟩,
               ⟨(.l 251), .load 1 false (.l 250), some ((.l 246), true)⟩,
               ⟨(.l 252), .bin .eql (.l 251) (.c (.str [110, 111, 110, 101])), some ((.l 246), true)⟩,
               ⟨(.l 253), .pick (.l 246) (.l 252) (.c (.bool false)), none⟩,
               ⟨(.l 254), .mv (.l 253), none⟩,
               ⟨(.l 255), .mv (.p 15), some ((.l 254), true)⟩,
               ⟨(.l 256), .bin .neq (.l 255) (.c (.int .i64 (-1))), some ((.l 254), true)⟩,
               ⟨(.l 257), .pick (.l 254) (.l 256) (.c (.bool false)), none⟩])
             (.cond (.l 257)
              (.seq (.region [⟨(.p 2), .mv (.c (.bool false)), none⟩])
               (.ret))
              (.skip)))))))))))
    (.region [⟨(.l 258), .bin .add (.p 33) (.c (.int .i64 (1))), none⟩,
      ⟨(.p 33), .mv (.l 258), none⟩])))
def b13_4 : ICode :=
 .seq (.region [⟨(.l 113), .bin .lss (.p 31) (.p 30), none⟩])
  (.seq (.cond (.l 113)
    (.skip)
    (.exit 4))
   (.seq (.block 5
     (.seq (.region [⟨(.l 114), .mv (.p 31), none⟩,
        ⟨(.p 12), .mv (.l 114), none⟩])
      (.seq (.region [⟨(.p 13), .mv (.c (.int .i64 (0))), none⟩])
       (.seq (.seq (.region [⟨(.l 115), .mv (.p 0), none⟩,
           ⟨(.p 32), .len .sl (.l 115), none⟩,
           ⟨(.p 33), .mv (.c (.int .i64 (0))), none⟩])
         (.block 6
          (.loop b13_3)))
        (.seq (.region [⟨(.l 259), .mv (.p 0), none⟩,
           ⟨(.l 260), .mv (.p 12), none⟩,
           ⟨(.l 261), .iaddr none 3 (.l 259) (.l 260), none⟩,
           ⟨(.l 262), .faddr 0 (.l 261), none⟩,
           ⟨(.l 263), .load 1 false (.l 262), none⟩,
           ⟨(.l 264), .bin .eql (.l 263) (.c (.str [110, 111, 110, 101])), none⟩,
           ⟨(.l 265), .mv (.l 264), none⟩,
           ⟨(.l 266), .mv (.p 3), some ((.l 265), true)⟩,
           ⟨(.l 267), .mv (.p 12), some ((.l 265), true)⟩,
           ⟨(.l 268), .iaddr none 1 (.l 266) (.l 267), some ((.l 265), true)⟩,
           ⟨(.l 269), .load 1 false (.l 268), some ((.l 265), true)⟩,
           ⟨(.l 270), .bin .neq (.l 269) (.c (.int .i64 (0))), some ((.l 265), true)⟩,
           ⟨(.l 271), .pick (.l 265) (.l 270) (.c (.bool false)), none⟩,
           ⟨(.l 272), .mv (.l 271), none⟩,
           ⟨(.l 273), .mv (.p 0), some ((.l 272), false)⟩,
           ⟨(.l 274), .mv (.p 12), some ((.l 272), false)⟩,
           ⟨(.l 275), .iaddr none 3 (.l 273) (.l 274), some ((.l 272), false)⟩,
           ⟨(.l 276), .faddr 0 (.l 275), some ((.l 272), false)⟩,
           ⟨(.l 277), .load 1 false (.l 276), some ((.l 272), false)⟩,
           ⟨(.l 278), .bin .neq (.l 277) (.c (.str [110, 111, 110, 101])), some ((.l 272), false)⟩,
           ⟨(.l 279), .mv (.l 278), some ((.l 272), false)⟩,
           ⟨(.l 280), .mv (.p 3), some ((.l 279), true)⟩,
           ⟨(.l 281), .mv (.p 12), some ((.l 279), true)⟩,
           ⟨(.l 282), .iaddr none 1 (.l 280) (.l 281), some ((.l 279), true)⟩,
           ⟨(.l 283), .load 1 false (.l 282), some ((.l 279), true)⟩,
           ⟨(.l 284), .mv (.p 13), some ((.l 279), true)⟩,
           ⟨(.l 285), .bin .add (.l 284) (.c (.int .i64 (1))), some ((.l 279), true)⟩,
           ⟨(.l 286), .bin .neq (.l 283) (.l 285), some ((.l 279), true)⟩,
           ⟨(.l 287), .pick (.l 279) (.l 286) (.c (.bool false)), some ((.l 272), false)⟩,
           ⟨(.l 288), .pick (.l 272) (.c (.bool true)) (.l 287), none⟩])
         (.cond (.l 288)
          (.seq (.region [⟨(.p 2), .mv (.c (.bool false)), none⟩])
           (.ret))
          (.skip)))))))
    (.region [⟨(.l 289), .bin .add (.p 31) (.c (.int .i64 (1))), none⟩,
      ⟨(.p 31), .mv (.l 289), none⟩])))
/-- stadion/stadionlaw01.MarkPreorder -/
def b13 : ICode :=
 .seq (.region [⟨(.p 2), .mv (.c (.bool false)), none⟩])
  (.seq (.seq (.region [⟨(.l 27), .call (.c (.fn (.func 18) [] [])) [], none⟩,
      ⟨(.l 28), .un .not (.l 27), none⟩,
      ⟨(.l 29), .mv (.l 28), none⟩,
      ⟨(.l 30), .mv (.p 0), some ((.l 29), false)⟩,
      ⟨(.l 31), .len .sl (.l 30), some ((.l 29), false)⟩,
      ⟨(.l 32), .bin .gtr (.l 31) (.c (.int .i64 (12))), some ((.l 29), false)⟩,
      ⟨(.l 33), .pick (.l 29) (.c (.bool true)) (.l 32), none⟩,
      ⟨(.l 34), .mv (.l 33), none⟩,
      ⟨(.l 35), .mv (.p 0), some ((.l 34), false)⟩,
      ⟨(.l 36), .call (.c (.fn (.func 48) [] [])) [(.l 35)], some ((.l 34), false)⟩,
      ⟨(.l 37), .bin .neq (.l 36) (.c (.int .i64 (0))), some ((.l 34), false)⟩,
      ⟨(.l 38), .pick (.l 34) (.c (.bool true)) (.l 37), none⟩,
      ⟨(.l 39), .mv (.l 38), none⟩,
      ⟨(.l 40), .mv (.p 1), some ((.l 39), false)⟩,
      ⟨(.l 41), .mv (.p 0), some ((.l 39), false)⟩,
      ⟨(.l 42), .len .sl (.l 41), some ((.l 39), false)⟩,
      ⟨(.l 43), .call (.c (.fn (.func 20) [] [])) [(.l 40), (.l 42)], some ((.l 39), false)⟩,
      ⟨(.l 44), .bin .neq (.l 43) (.c (.int .i64 (0))), some ((.l 39), false)⟩,
      ⟨(.l 45), .pick (.l 39) (.c (.bool true)) (.l 44), none⟩])
    (.cond (.l 45)
     (.seq (.region [⟨(.l 46), .call (.c (.fn (.func 18) [] [])) [], none⟩,
        ⟨(.p 2), .mv (.l 46), none⟩])
      (.ret))
     (.skip)))
   (.seq (.region [⟨(.l 48), .mv (.p 0), none⟩,
      ⟨(.l 49), .call (.c (.fn (.func 49) [] [])) [(.l 48)], none⟩,
      ⟨(.l 47), .mv (.l 49), none⟩,
      ⟨(.l 50), .extract 0 (.l 47), none⟩,
      ⟨(.l 51), .extract 1 (.l 47), none⟩,
      ⟨(.p 3), .mv (.l 50), none⟩,
      ⟨(.p 4), .mv (.l 51), none⟩])
    (.seq (.seq (.region [⟨(.l 52), .mv (.p 4), none⟩,
        ⟨(.l 53), .bin .neq (.l 52) (.c (.int .i64 (0))), none⟩,
        ⟨(.l 54), .mv (.l 53), none⟩,
        ⟨(.l 55), .mv (.p 3), some ((.l 54), false)⟩,
        ⟨(.l 56), .len .sl (.l 55), some ((.l 54), false)⟩,
        ⟨(.l 57), .mv (.p 0), some ((.l 54), false)⟩,
        ⟨(.l 58), .len .sl (.l 57), some ((.l 54), false)⟩,
        ⟨(.l 59), .bin .neq (.l 56) (.l 58), some ((.l 54), false)⟩,
        ⟨(.l 60), .pick (.l 54) (.c (.bool true)) (.l 59), none⟩])
      (.cond (.l 60)
       (.seq (.region [⟨(.p 2), .mv (.c (.bool false)), none⟩])
        (.ret))
       (.skip)))
     (.seq (.region [⟨(.l 61), .mv (.p 1), none⟩,
        ⟨(.l 62), .mv (.p 0), none⟩,
        ⟨(.l 63), .len .sl (.l 62), none⟩,
        ⟨(.l 64), .call (.c (.fn (.func 22) [] [])) [(.l 61), (.l 63)], none⟩,
        ⟨(.p 5), .mv (.l 64), none⟩])
      (.seq (.region [⟨(.p 6), .mv (.c (.nilsl)), none⟩])
       (.seq (.seq (.region [⟨(.p 24), .mv (.p 5), none⟩,
           ⟨(.p 25), .len .sl (.p 24), none⟩,
           ⟨(.p 26), .mv (.c (.int .i64 (0))), none⟩])
         (.block 0
          (.loop b13_0)))
        (.seq (.region [⟨(.l 80), .mv (.p 6), none⟩,
           ⟨(.l 81), .call (.c (.fn (.func 49) [] [])) [(.l 80)], none⟩,
           ⟨(.l 79), .mv (.l 81), none⟩,
           ⟨(.l 82), .extract 0 (.l 79), none⟩,
           ⟨(.l 83), .extract 1 (.l 79), none⟩,
           ⟨(.p 8), .mv (.l 82), none⟩,
           ⟨(.p 9), .mv (.l 83), none⟩])
         (.seq (.seq (.region [⟨(.l 84), .mv (.p 9), none⟩,
             ⟨(.l 85), .bin .neq (.l 84) (.c (.int .i64 (0))), none⟩,
             ⟨(.l 86), .mv (.l 85), none⟩,
             ⟨(.l 87), .mv (.p 8), some ((.l 86), false)⟩,
             ⟨(.l 88), .len .sl (.l 87), some ((.l 86), false)⟩,
             ⟨(.l 89), .mv (.p 0), some ((.l 86), false)⟩,
             ⟨(.l 90), .len .sl (.l 89), some ((.l 86), false)⟩,
             ⟨(.l 91), .bin .neq (.l 88) (.l 90), some ((.l 86), false)⟩,
             ⟨(.l 92), .pick (.l 86) (.c (.bool true)) (.l 91), none⟩])
           (.cond (.l 92)
            (.seq (.region [⟨(.p 2), .mv (.c (.bool false)), none⟩])
             (.ret))
            (.skip)))
          (.seq (.seq (.region [⟨(.p 27), .mv (.p 5), none⟩,
              ⟨(.p 28), .len .sl (.p 27), none⟩,
              ⟨(.p 29), .mv (.c (.int .i64 (0))), none⟩])
            (.block 2
             (.loop b13_1)))
           (.seq (.seq (.region [⟨(.l 110), .mv (.p 0), none⟩,
               ⟨(.p 30), .len .sl (.l 110), none⟩,
               ⟨(.p 31), .mv (.c (.int .i64 (0))), none⟩])
             (.block 4
              (.loop b13_4)))
            (.seq (.region [⟨(.p 2), .mv (.c (.bool true)), none⟩])
             (.ret))))))))))))
theorem ft13 : FT 13 = some ⟨290, [0, 1, 4, 5, 6, 7, 8, 10, 11, 12, 13, 14, 15, 16, 17, 18, 19, 20, 21, 22, 23, 24, 25, 26, 65, 66, 67, 93, 94, 95, 111, 112, 116, 117, 163, 164], [.var (.p 2)], b13⟩ := by kernel_rfl

end Go.Ab.Ch1


/-
  Own work: slices.SortFunc over marks: the insertion sort, and what the sort's functions share.
-/
namespace Go.Ab.Ch1
open Go.Sort (swp insInner insOuter insertionSort)
variable {M : Mach} {h : Heap} {b n : Nat} {cap : Option Nat} {g : AV}

abbrev fnM (k : Nat) : AV := .fn (.func k) [] []
abbrev Mk := List UInt8 × Int × List UInt8
abbrev cm (m : Mk) : List AV := [.str m.1, .int .i64 m.2.1, .str m.2.2]
abbrev am (m : Mk) : AV := .agg [.str m.1, .int .i64 m.2.1, .str m.2.2]
/-- The heap with the marks in their block. -/
abbrev mh (h : Heap) (b : Nat) (l : List Mk) : Heap := h.put b (some (.cells (arr cm l) 49))
/-- What is asked of the comparison: it reads nothing but its arguments. -/
def CmpM (M : Mach) (g : AV) (c : Mk → Mk → Int) : Prop := ∀ x y hp, CT M g [am x, am y] hp ⟨.int .i64 (c x y), hp, []⟩
def ltOf (c : Mk → Mk → Int) (x y : Mk) : Bool := decide (c x y < 0)
theorem lt_t {c : Mk → Mk → Int} {x y : Mk} (h : c x y < 0) : ltOf c x y = true := decide_eq_true h
theorem lt_f {c : Mk → Mk → Int} {x y : Mk} (h : ¬ c x y < 0) : ltOf c x y = false := decide_eq_false h
theorem at_list (d : Array Mk) (i : Nat) : d.toList[i]! = d[i]! := Array.getElem!_toList
theorem swp_list (d : Array Mk) (i j : Nat) : (swp d i j).toList = (d.toList.set i d.toList[j]!).set j d.toList[i]! := by
  rw [at_list, at_list, swp, Array.toList_setIfInBounds, Array.toList_setIfInBounds]
theorem swp_len (d : Array Mk) (i j : Nat) : (swp d i j).size = d.size := by simp [swp]

variable {c : Mk → Mk → Int}
theorem loop231_0 (hb : b < h.length) (hn : n < 2305843009213693952) (hc : CmpM M g c) (a : Nat) (a2 a4 : AV) {Q : Ex → StW → Prop} : ∀ (j : Nat) (d : Array Mk) (lo : List (Nat × AV)) (wr : List Nat), d.size = n → j < n → Only b wr →
    (∀ x lo wr, Only b wr → Q (.exit 2) ⟨⟨[.sl b 0 n 3 cap, .int .i64 a, a2, g, a4, x], lo, mh h b (insInner (ltOf c) a j d).toList, []⟩, wr⟩) →
    W M (.loop b231_0) ⟨⟨[.sl b 0 n 3 cap, .int .i64 a, a2, g, a4, .int .i64 j], lo, mh h b d.toList, []⟩, wr⟩ Q := by
  intro j
  induction j with
  | zero =>
    intro d lo wr hl hj hw hQ
    refine W.loop ?_
    unfold b231_0
    repeat' first | apply W.seq | apply SQn | apply W.region | apply WO.nil | apply W.block | apply W.ret | apply W.exit | apply W.skip | apply SQr | apply SQe | apply BQn | apply BQr | apply BQe | (apply BQo; exact rfl) | apply LQe | apply LQr | (apply W.drawro; exact rfl) | apply W.draw | apply WD.nil | (apply WD.gT; exact rfl) | (apply WD.gF; exact rfl) | (apply WD.sT; exact rfl) | (apply WD.sF; exact rfl) | (apply WD.sU; exact rfl) | (apply WD.pure1; exact rfl) | (apply WD.load1; exact rfl; exact rfl; exact rfl) | (apply WD.store1; exact rfl; exact rfl; exact rfl) | (apply WD.clb; exact rfl; exact rfl; exact rfl; exact rfl; all_goals first | (intro h; exact absurd h (by decide)) | intro _) | (apply WD.cl0; exact rfl; exact rfl; exact rfl; exact rfl) | (apply WD.cl1; exact rfl; exact rfl; exact rfl; exact rfl) | (apply W.condT; exact rfl) | (apply W.condF; exact rfl) | (apply W.cond; exact rfl; all_goals intro _) | (apply WO.gT; exact rfl) | (apply WO.gF; exact rfl) | (apply WO.sT; exact rfl) | (apply WO.sF; exact rfl) | (apply WO.sU; exact rfl) | (apply WO.lss; exact rfl; exact rfl; all_goals first | (intro _; exfalso; omega) | intro _) | (apply WO.gtr; exact rfl; exact rfl; all_goals first | (intro _; exfalso; omega) | intro _) | (apply WO.pkT; exact rfl; exact rfl) | (apply WO.pkF; exact rfl; exact rfl) | (apply WO.sub; exact rfl; exact rfl; omega) | (apply WO.iav; exact rfl; exact rfl; omega) | (apply WO.ias; exact rfl; exact rfl; omega) | (apply WO.lda; exact rfl; exact fun _ => rfl; (first | omega | (simp only [List.length_set]; omega) | (simp; omega)); decide; exact rfl; case ia => infer_instance) | (apply WO.lsa; exact rfl; (first | exact rfl | assumption | exact at_new | (apply at_old; assumption) | (apply at_put; first | assumption | (simp only [put_length]; assumption))); exact fun _ => rfl; (first | omega | (simp only [List.length_set]; omega) | (simp; omega)); decide; exact rfl; case ia => infer_instance) | (apply WO.sta; exact rfl; exact rfl; (first | exact rfl | assumption | exact at_new | (apply at_old; assumption) | (apply at_put; first | assumption | (simp only [put_length]; assumption))); exact fun _ => rfl; (first | omega | (simp only [List.length_set]; omega) | (simp; omega)); exact ⟨rfl, by decide, rfl⟩; exact rfl; case ia => infer_instance) | (apply WO.clb; exact rfl; exact rfl; exact rfl; all_goals first | (intro h; exact absurd h (by decide)) | intro _) | (apply WO.cll; exact rfl; exact rfl; exact rfl) | (apply WO.hlv; exact rfl; exact rfl; exact rfl) | (apply WO.hpv; exact rfl; exact rfl; exact rfl) | (apply WO.hnv; exact rfl; exact rfl; exact rfl) | (apply WO.pl; exact rfl; exact rfl) | (apply WO.pp; exact rfl; exact rfl)
    exact hQ _ _ _ hw
  | succ j ih =>
    intro d lo wr hl hj hw hQ
    have f1 : ((j + 1 : Nat) : Int).toNat = j + 1 := by omega
    have f2 : (((j + 1 : Nat) : Int) - 1).toNat = j := by omega
    have hl' : d.toList.length = n := by simp [hl]
    refine W.loop ?_
    by_cases h1 : j + 1 > a
    · have hcc : CT M g [am d.toList[((j + 1 : Nat) : Int).toNat]!, am d.toList[(((j + 1 : Nat) : Int) - 1).toNat]!] (mh h b d.toList) ⟨.int .i64 (c d[j + 1]! d[j]!), mh h b d.toList, []⟩ := by
        rw [f1, f2, at_list, at_list]; exact hc _ _ _
      by_cases h2 : c d[j + 1]! d[j]! < 0
      · have e : insInner (ltOf c) a (j + 1) d = insInner (ltOf c) a j (swp d (j + 1) j) := by rw [insInner, lt_t h2, decide_eq_true h1]; rfl
        rw [e] at hQ
        unfold b231_0
        repeat' first | apply W.seq | apply SQn | apply W.region | apply WO.nil | apply W.block | apply W.ret | apply W.exit | apply W.skip | apply SQr | apply SQe | apply BQn | apply BQr | apply BQe | (apply BQo; exact rfl) | apply LQe | apply LQr | (apply W.drawro; exact rfl) | apply W.draw | apply WD.nil | (apply WD.gT; exact rfl) | (apply WD.gF; exact rfl) | (apply WD.sT; exact rfl) | (apply WD.sF; exact rfl) | (apply WD.sU; exact rfl) | (apply WD.pure1; exact rfl) | (apply WD.load1; exact rfl; exact rfl; exact rfl) | (apply WD.store1; exact rfl; exact rfl; exact rfl) | (apply WD.clb; exact rfl; exact rfl; exact rfl; exact rfl; all_goals first | (intro h; exact absurd h (by decide)) | intro _) | (apply WD.cl0; exact rfl; exact rfl; exact rfl; exact rfl) | (apply WD.cl1; exact rfl; exact rfl; exact rfl; exact rfl) | (apply W.condT; exact rfl) | (apply W.condF; exact rfl) | (apply W.cond; exact rfl; all_goals intro _) | (apply WO.gT; exact rfl) | (apply WO.gF; exact rfl) | (apply WO.sT; exact rfl) | (apply WO.sF; exact rfl) | (apply WO.sU; exact rfl) | (apply WO.lss; exact rfl; exact rfl; all_goals first | (intro _; exfalso; omega) | intro _) | (apply WO.gtr; exact rfl; exact rfl; all_goals first | (intro _; exfalso; omega) | intro _) | (apply WO.pkT; exact rfl; exact rfl) | (apply WO.pkF; exact rfl; exact rfl) | (apply WO.sub; exact rfl; exact rfl; omega) | (apply WO.ct; exact rfl; exact rfl; first | exact hcc) | (apply WO.ctn; exact rfl; exact rfl; first | exact hcc) | (apply WD.ct; exact rfl; exact rfl; exact rfl; first | exact hcc) | (apply WO.iav; exact rfl; exact rfl; omega) | (apply WO.ias; exact rfl; exact rfl; omega) | (apply WO.lda; exact rfl; exact fun _ => rfl; (first | omega | (simp only [List.length_set]; omega) | (simp; omega)); decide; exact rfl; case ia => infer_instance) | (apply WO.lsa; exact rfl; (first | exact rfl | assumption | exact at_new | (apply at_old; assumption) | (apply at_put; first | assumption | (simp only [put_length]; assumption))); exact fun _ => rfl; (first | omega | (simp only [List.length_set]; omega) | (simp; omega)); decide; exact rfl; case ia => infer_instance) | (apply WO.sta; exact rfl; exact rfl; (first | exact rfl | assumption | exact at_new | (apply at_old; assumption) | (apply at_put; first | assumption | (simp only [put_length]; assumption))); exact fun _ => rfl; (first | omega | (simp only [List.length_set]; omega) | (simp; omega)); exact ⟨rfl, by decide, rfl⟩; exact rfl; case ia => infer_instance) | (apply WO.clb; exact rfl; exact rfl; exact rfl; all_goals first | (intro h; exact absurd h (by decide)) | intro _) | (apply WO.cll; exact rfl; exact rfl; exact rfl) | (apply WO.hlv; exact rfl; exact rfl; exact rfl) | (apply WO.hpv; exact rfl; exact rfl; exact rfl) | (apply WO.hnv; exact rfl; exact rfl; exact rfl) | (apply WO.pl; exact rfl; exact rfl) | (apply WO.pp; exact rfl; exact rfl)
        refine LQn ?_
        rw [put_put, put_put, f1, f2, ← swp_list, show (((j + 1 : Nat) : Int) - 1) = ((j : Nat) : Int) by omega]
        exact ih _ _ _ (by rw [swp_len, hl]) (by omega) hw.cons.cons hQ
      · have e : insInner (ltOf c) a (j + 1) d = d := by rw [insInner, lt_f h2]; simp
        rw [e] at hQ
        unfold b231_0
        repeat' first | apply W.seq | apply SQn | apply W.region | apply WO.nil | apply W.block | apply W.ret | apply W.exit | apply W.skip | apply SQr | apply SQe | apply BQn | apply BQr | apply BQe | (apply BQo; exact rfl) | apply LQe | apply LQr | (apply W.drawro; exact rfl) | apply W.draw | apply WD.nil | (apply WD.gT; exact rfl) | (apply WD.gF; exact rfl) | (apply WD.sT; exact rfl) | (apply WD.sF; exact rfl) | (apply WD.sU; exact rfl) | (apply WD.pure1; exact rfl) | (apply WD.load1; exact rfl; exact rfl; exact rfl) | (apply WD.store1; exact rfl; exact rfl; exact rfl) | (apply WD.clb; exact rfl; exact rfl; exact rfl; exact rfl; all_goals first | (intro h; exact absurd h (by decide)) | intro _) | (apply WD.cl0; exact rfl; exact rfl; exact rfl; exact rfl) | (apply WD.cl1; exact rfl; exact rfl; exact rfl; exact rfl) | (apply W.condT; exact rfl) | (apply W.condF; exact rfl) | (apply W.cond; exact rfl; all_goals intro _) | (apply WO.gT; exact rfl) | (apply WO.gF; exact rfl) | (apply WO.sT; exact rfl) | (apply WO.sF; exact rfl) | (apply WO.sU; exact rfl) | (apply WO.lss; exact rfl; exact rfl; all_goals first | (intro _; exfalso; omega) | intro _) | (apply WO.gtr; exact rfl; exact rfl; all_goals first | (intro _; exfalso; omega) | intro _) | (apply WO.pkT; exact rfl; exact rfl) | (apply WO.pkF; exact rfl; exact rfl) | (apply WO.sub; exact rfl; exact rfl; omega) | (apply WO.ct; exact rfl; exact rfl; first | exact hcc) | (apply WO.ctn; exact rfl; exact rfl; first | exact hcc) | (apply WD.ct; exact rfl; exact rfl; exact rfl; first | exact hcc) | (apply WO.iav; exact rfl; exact rfl; omega) | (apply WO.ias; exact rfl; exact rfl; omega) | (apply WO.lda; exact rfl; exact fun _ => rfl; (first | omega | (simp only [List.length_set]; omega) | (simp; omega)); decide; exact rfl; case ia => infer_instance) | (apply WO.lsa; exact rfl; (first | exact rfl | assumption | exact at_new | (apply at_old; assumption) | (apply at_put; first | assumption | (simp only [put_length]; assumption))); exact fun _ => rfl; (first | omega | (simp only [List.length_set]; omega) | (simp; omega)); decide; exact rfl; case ia => infer_instance) | (apply WO.sta; exact rfl; exact rfl; (first | exact rfl | assumption | exact at_new | (apply at_old; assumption) | (apply at_put; first | assumption | (simp only [put_length]; assumption))); exact fun _ => rfl; (first | omega | (simp only [List.length_set]; omega) | (simp; omega)); exact ⟨rfl, by decide, rfl⟩; exact rfl; case ia => infer_instance) | (apply WO.clb; exact rfl; exact rfl; exact rfl; all_goals first | (intro h; exact absurd h (by decide)) | intro _) | (apply WO.cll; exact rfl; exact rfl; exact rfl) | (apply WO.hlv; exact rfl; exact rfl; exact rfl) | (apply WO.hpv; exact rfl; exact rfl; exact rfl) | (apply WO.hnv; exact rfl; exact rfl; exact rfl) | (apply WO.pl; exact rfl; exact rfl) | (apply WO.pp; exact rfl; exact rfl)
        exact hQ _ _ _ hw
    · have e : insInner (ltOf c) a (j + 1) d = d := by rw [insInner, decide_eq_false h1]; simp
      rw [e] at hQ
      unfold b231_0
      repeat' first | apply W.seq | apply SQn | apply W.region | apply WO.nil | apply W.block | apply W.ret | apply W.exit | apply W.skip | apply SQr | apply SQe | apply BQn | apply BQr | apply BQe | (apply BQo; exact rfl) | apply LQe | apply LQr | (apply W.drawro; exact rfl) | apply W.draw | apply WD.nil | (apply WD.gT; exact rfl) | (apply WD.gF; exact rfl) | (apply WD.sT; exact rfl) | (apply WD.sF; exact rfl) | (apply WD.sU; exact rfl) | (apply WD.pure1; exact rfl) | (apply WD.load1; exact rfl; exact rfl; exact rfl) | (apply WD.store1; exact rfl; exact rfl; exact rfl) | (apply WD.clb; exact rfl; exact rfl; exact rfl; exact rfl; all_goals first | (intro h; exact absurd h (by decide)) | intro _) | (apply WD.cl0; exact rfl; exact rfl; exact rfl; exact rfl) | (apply WD.cl1; exact rfl; exact rfl; exact rfl; exact rfl) | (apply W.condT; exact rfl) | (apply W.condF; exact rfl) | (apply W.cond; exact rfl; all_goals intro _) | (apply WO.gT; exact rfl) | (apply WO.gF; exact rfl) | (apply WO.sT; exact rfl) | (apply WO.sF; exact rfl) | (apply WO.sU; exact rfl) | (apply WO.lss; exact rfl; exact rfl; all_goals first | (intro _; exfalso; omega) | intro _) | (apply WO.gtr; exact rfl; exact rfl; all_goals first | (intro _; exfalso; omega) | intro _) | (apply WO.pkT; exact rfl; exact rfl) | (apply WO.pkF; exact rfl; exact rfl) | (apply WO.sub; exact rfl; exact rfl; omega) | (apply WO.iav; exact rfl; exact rfl; omega) | (apply WO.ias; exact rfl; exact rfl; omega) | (apply WO.lda; exact rfl; exact fun _ => rfl; (first | omega | (simp only [List.length_set]; omega) | (simp; omega)); decide; exact rfl; case ia => infer_instance) | (apply WO.lsa; exact rfl; (first | exact rfl | assumption | exact at_new | (apply at_old; assumption) | (apply at_put; first | assumption | (simp only [put_length]; assumption))); exact fun _ => rfl; (first | omega | (simp only [List.length_set]; omega) | (simp; omega)); decide; exact rfl; case ia => infer_instance) | (apply WO.sta; exact rfl; exact rfl; (first | exact rfl | assumption | exact at_new | (apply at_old; assumption) | (apply at_put; first | assumption | (simp only [put_length]; assumption))); exact fun _ => rfl; (first | omega | (simp only [List.length_set]; omega) | (simp; omega)); exact ⟨rfl, by decide, rfl⟩; exact rfl; case ia => infer_instance) | (apply WO.clb; exact rfl; exact rfl; exact rfl; all_goals first | (intro h; exact absurd h (by decide)) | intro _) | (apply WO.cll; exact rfl; exact rfl; exact rfl) | (apply WO.hlv; exact rfl; exact rfl; exact rfl) | (apply WO.hpv; exact rfl; exact rfl; exact rfl) | (apply WO.hnv; exact rfl; exact rfl; exact rfl) | (apply WO.pl; exact rfl; exact rfl) | (apply WO.pp; exact rfl; exact rfl)
      exact hQ _ _ _ hw

theorem insInner_size (lt : Mk → Mk → Bool) (a : Nat) : ∀ (j : Nat) (d : Array Mk), (insInner lt a j d).size = d.size
  | 0, _ => rfl
  | j + 1, d => by
    rw [insInner]
    split
    · rw [insInner_size lt a j, swp_len]
    · rfl

theorem loop231_1 (hb : b < h.length) (hn : n < 2305843009213693952) (hc : CmpM M g c) (a e : Nat) (he : e ≤ n) {Q : Ex → StW → Prop} : ∀ (r i : Nat) (d : Array Mk) (a5 : AV) (lo : List (Nat × AV)) (wr : List Nat), e - i = r → d.size = n → i ≤ n + 1 → Only b wr →
    (∀ x j lo wr, Only b wr → Q (.exit 0) ⟨⟨[.sl b 0 n 3 cap, .int .i64 a, .int .i64 e, g, x, j], lo, mh h b (insOuter (ltOf c) a e i d).toList, []⟩, wr⟩) →
    W M (.loop b231_1) ⟨⟨[.sl b 0 n 3 cap, .int .i64 a, .int .i64 e, g, .int .i64 i, a5], lo, mh h b d.toList, []⟩, wr⟩ Q := by
  intro r
  induction r with
  | zero =>
    intro i d a5 lo wr hr hl hi hw hQ
    have e' : insOuter (ltOf c) a e i d = d := by rw [insOuter, if_neg (by omega)]
    rw [e'] at hQ
    refine W.loop ?_
    unfold b231_1
    repeat' first | apply W.seq | apply SQn | apply W.region | apply WO.nil | apply W.block | apply W.ret | apply W.exit | apply W.skip | apply SQr | apply SQe | apply BQn | apply BQr | apply BQe | (apply BQo; exact rfl) | apply LQe | apply LQr | (apply W.condT; exact rfl) | (apply W.condF; exact rfl) | (apply W.cond; exact rfl; all_goals intro _) | (apply WO.lss; exact rfl; exact rfl; all_goals first | (intro _; exfalso; omega) | intro _) | (apply WO.add; exact rfl; exact rfl; omega) | (apply WO.pl; exact rfl; exact rfl) | (apply WO.pp; exact rfl; exact rfl)
    exact hQ _ _ _ _ hw
  | succ r ih =>
    intro i d a5 lo wr hr hl hi hw hQ
    have e' : insOuter (ltOf c) a e i d = insOuter (ltOf c) a e (i + 1) (insInner (ltOf c) a i d) := by rw [insOuter, if_pos (by omega)]
    rw [e'] at hQ
    refine W.loop ?_
    unfold b231_1
    repeat' first | apply W.seq | apply SQn | apply W.region | apply WO.nil | apply W.block | apply W.ret | apply W.exit | apply W.skip | apply SQr | apply SQe | apply BQn | apply BQr | apply BQe | (apply BQo; exact rfl) | apply LQe | apply LQr | (apply W.condT; exact rfl) | (apply W.condF; exact rfl) | (apply W.cond; exact rfl; all_goals intro _) | (apply WO.lss; exact rfl; exact rfl; all_goals first | (intro _; exfalso; omega) | intro _) | (apply WO.add; exact rfl; exact rfl; omega) | (apply WO.pl; exact rfl; exact rfl) | (apply WO.pp; exact rfl; exact rfl)
    refine loop231_0 hb hn hc a _ _ i d _ _ hl (by omega) hw (fun x lo wr hw => ?_)
    repeat' first | apply W.seq | apply SQn | apply W.region | apply WO.nil | apply W.block | apply W.ret | apply W.exit | apply W.skip | apply SQr | apply SQe | apply BQn | apply BQr | apply BQe | (apply BQo; exact rfl) | apply LQe | apply LQr | (apply W.condT; exact rfl) | (apply W.condF; exact rfl) | (apply W.cond; exact rfl; all_goals intro _) | (apply WO.lss; exact rfl; exact rfl; all_goals first | (intro _; exfalso; omega) | intro _) | (apply WO.add; exact rfl; exact rfl; omega) | (apply WO.pl; exact rfl; exact rfl) | (apply WO.pp; exact rfl; exact rfl)
    refine LQn ?_
    rw [show ((i : Int) + 1) = ((i + 1 : Nat) : Int) by omega]
    exact ih (i + 1) _ _ _ _ (by omega) (by rw [insInner_size, hl]) (by omega) hw hQ

/-- A run that rearranges the marks in their block, on whatever heap. -/
theorem run_mh {l : List Mk} {f N : Nat} {pers : List Nat} {body : ICode} {ars : List AV} {l' : List Mk} (hft : M.FT f = some ⟨N, pers, [], body⟩) (hN : ars.length ≤ N) (hx : ∀ ars h, M.ext f ars h = none) (hb : b < h.length)
    (hW : W M body ⟨⟨pers.map (fun t => (ars[t]?).getD undefA), [], mh h b l, []⟩, []⟩ fun e s => (e = .normal ∨ e = .ret) ∧ s.s.dfs = [] ∧ ∃ lo, s.s.hp = lo ∧ Only b s.wr ∧ lo = mh h b l') : ∃ wr, Only b wr ∧ CT M (fnM f) ars (mh h b l) ⟨.tup [], mh h b l', wr⟩ := by
  obtain ⟨l2, wr, hw, rfl, hr⟩ := run_put (M := M) (l := l) (e := 49) (f := cm) (P := fun x => x = l') hft hN hb (fun _ => rfl) (hW.mono fun e s ⟨h1, h2, lo, h3, h4, h5⟩ => ⟨h1, h2, l', by rw [h3, h5], h4, rfl⟩)
  exact ⟨wr, hw, CT.run (hx _ _) (by simpa using hr)⟩
end Go.Ab.Ch1


/-
  Own work: slices.SortFunc over at most twelve marks.
-/
namespace Go.Ab.Ch1
open Go.Sort (swp insInner insOuter insertionSort PermIn SortedIn SWO)
variable {M : Mach} {h : Heap} {b n : Nat} {cap : Option Nat} {g : AV} {c : Mk → Mk → Int}

/-- The machine knows none of these by a contract. -/
structure CPq (M : Mach) : Prop where
  ft : M.FT = FT
  n131 : ∀ ars h, M.ext 131 ars h = none
  n190 : ∀ ars h, M.ext 190 ars h = none
  n191 : ∀ ars h, M.ext 191 ars h = none
  n231 : ∀ ars h, M.ext 231 ars h = none
  n240 : ∀ ars h, M.ext 240 ars h = none

theorem r231 (C : CPq M) (hb : b < h.length) (hn : n < 2305843009213693952) (hc : CmpM M g c) (d : Array Mk) (hd : d.size = n) (a e : Nat) (ha : a ≤ n) (he : e ≤ n) :
    ∃ wr, Only b wr ∧ CT M (fnM 231) [.sl b 0 n 3 cap, .int .i64 a, .int .i64 e, g] (mh h b d.toList) ⟨.tup [], mh h b (insertionSort (ltOf c) d a e).toList, wr⟩ := by
  refine run_mh (by rw [C.ft]; exact ft231) (by simp) C.n231 hb ?_
  unfold b231
  simp only [List.map_cons, List.map_nil, List.getElem?_cons_zero, List.getElem?_cons_succ, List.getElem?_nil, Option.getD_some, Option.getD_none]
  repeat' first | apply W.seq | apply SQn | apply W.region | apply WO.nil | apply W.block | apply W.ret | apply W.exit | apply W.skip | apply SQr | apply SQe | apply BQn | apply BQr | apply BQe | (apply BQo; exact rfl) | apply LQe | apply LQr | (apply W.condT; exact rfl) | (apply W.condF; exact rfl) | (apply W.cond; exact rfl; all_goals intro _) | (apply WO.add; exact rfl; exact rfl; omega) | (apply WO.pl; exact rfl; exact rfl) | (apply WO.pp; exact rfl; exact rfl)
  rw [show ((a : Int) + 1) = ((a + 1 : Nat) : Int) by omega]
  refine loop231_1 hb hn hc a e he _ (a + 1) d _ _ _ rfl hd (by omega) Only.nil (fun x j lo wr hw => ?_)
  repeat' first | apply W.seq | apply SQn | apply W.region | apply WO.nil | apply W.block | apply W.ret | apply W.exit | apply W.skip | apply SQr | apply SQe | apply BQn | apply BQr | apply BQe | (apply BQo; exact rfl) | apply LQe | apply LQr | (apply W.condT; exact rfl) | (apply W.condF; exact rfl) | (apply W.cond; exact rfl; all_goals intro _) | (apply WO.add; exact rfl; exact rfl; omega) | (apply WO.pl; exact rfl; exact rfl) | (apply WO.pp; exact rfl; exact rfl)
  exact ⟨.inl rfl, rfl, _, rfl, hw, rfl⟩

set_option maxRecDepth 10000 in
/-- math/bits.Len of a small number: no more than a byte. -/
theorem r240 (C : CPq M) (m : Nat) (hm : m < 256) (hp : Heap) : ∃ r : Int, (0 ≤ r ∧ r < 256) ∧ CT M (fnM 240) [.int .u64 m] hp ⟨.int .i64 r, hp, []⟩ := by
  obtain ⟨v, ⟨r, rfl, h1⟩, h2⟩ := run_sameE (M := M) (h := hp) (ars := [.int .u64 m]) (P := fun v => ∃ r : Int, v = .int .i64 r ∧ 0 ≤ r ∧ r < 256) (by rw [C.ft]; exact ft240) (by simp) (by
    simp only [List.map_cons, List.map_nil, List.getElem?_cons_zero, List.getElem?_cons_succ, List.getElem?_nil, Option.getD_some, Option.getD_none]
    unfold b240
    repeat' first | (apply WO.idxr; exact rfl; exact rfl; exact ⟨by omega, Int.lt_of_lt_of_le (b := 256) (by omega) (Int.ofNat_le.2 (Nat.le_of_eq rfl))⟩; intro _ _ _) | (apply WO.cv8; exact rfl; omega) | apply W.seq | apply SQn | apply W.region | apply WO.nil | apply W.block | apply W.ret | apply W.exit | apply W.skip | apply SQr | apply SQe | apply BQn | apply BQr | apply BQe | (apply BQo; exact rfl) | apply LQe | apply LQr | (apply W.condT; exact rfl) | (apply W.condF; exact rfl) | (apply W.cond; exact rfl; all_goals intro _) | (apply WO.geq; exact rfl; exact rfl; all_goals first | (intro _; exfalso; omega) | intro _) | (apply WO.cvi; exact rfl; omega) | (apply WO.shr1; exact rfl) | (apply WO.add; exact rfl; exact rfl; omega) | (apply WO.idx; exact rfl; exact rfl; omega) | (apply WO.pl; exact rfl; exact rfl) | (apply WO.pp; exact rfl; exact rfl)
    rename_i r h1 h2
    exact ⟨.inr rfl, rfl, rfl, rfl, _, rfl, _, rfl, by omega⟩)
  exact ⟨r, h1, CT.run (C.n240 _ _) (by simpa using h2)⟩
theorem r191 (C : CPq M) (m : Nat) (hm : m < 256) (hp : Heap) : ∃ r : Int, (0 ≤ r ∧ r < 256) ∧ CT M (fnM 191) [.int .u64 m] hp ⟨.int .i64 r, hp, []⟩ := by
  obtain ⟨r, hr, hc⟩ := r240 C m hm hp
  refine ⟨r, hr, CT.run (C.n191 _ _) ?_⟩
  refine run_same (by rw [C.ft]; exact ft191) (by simp) ?_
  unfold b191
  simp only [List.map_cons, List.map_nil, List.getElem?_cons_zero, List.getElem?_cons_succ, List.getElem?_nil, Option.getD_some, Option.getD_none]
  repeat' first | apply W.seq | apply SQn | apply W.region | apply WO.nil | apply W.block | apply W.ret | apply W.exit | apply W.skip | apply SQr | apply SQe | apply BQn | apply BQr | apply BQe | (apply BQo; exact rfl) | apply LQe | apply LQr | (apply W.condT; exact rfl) | (apply W.condF; exact rfl) | (apply W.cond; exact rfl; all_goals intro _) | (apply WO.ct; exact rfl; exact rfl; first | exact hc) | (apply WO.ctn; exact rfl; exact rfl; first | exact hc) | (apply WD.ct; exact rfl; exact rfl; exact rfl; first | exact hc) | (apply WO.clb; exact rfl; exact rfl; exact rfl; all_goals first | (intro h; exact absurd h (by decide)) | intro _) | (apply WO.cll; exact rfl; exact rfl; exact rfl) | (apply WO.pl; exact rfl; exact rfl) | (apply WO.pp; exact rfl; exact rfl)
  exact ⟨.inr rfl, rfl, rfl, rfl, _, rfl, rfl⟩

/-- What slices.SortFunc is asked for: it leaves the marks sorted. -/
def SortsM (M : Mach) (g : AV) (c : Mk → Mk → Int) (m : Nat) : Prop := ∀ (h : Heap) (b : Nat) (cap : Option Nat) (l : List Mk), b < h.length → l.length ≤ m →
  ∃ l' wr, Only b wr ∧ l'.Perm l ∧ (∀ i j, i < j → j < l'.length → ¬ c l'[j]! l'[i]! < 0) ∧ CT M (fnM 131) [.sl b 0 l.length 3 cap, g] (mh h b l) ⟨.tup [], mh h b l', wr⟩

theorem swo_of {c : Mk → Mk → Int} {key : Mk → Int} (h : ∀ x y, c x y < 0 ↔ key y < key x) : SWO (ltOf c) where
  irrefl x := decide_eq_false (by rw [h]; omega)
  trans x y z h1 h2 := by
    have h1 := of_decide_eq_true h1; have h2 := of_decide_eq_true h2
    rw [h] at h1 h2
    exact decide_eq_true (by rw [h]; omega)
  ntrans x y z h1 h2 := by
    have h1 := of_decide_eq_false h1; have h2 := of_decide_eq_false h2
    rw [h] at h1 h2
    exact decide_eq_false (by rw [h]; omega)

theorem sorted_of {d d' : Array Mk} (h : PermIn 0 d.size d d' ∧ SortedIn (ltOf c) 0 d.size d') : d'.toList.Perm d.toList ∧ ∀ i j, i < j → j < d'.toList.length → ¬ c d'.toList[j]! d'.toList[i]! < 0 := by
  obtain ⟨⟨h1, _, h3⟩, h4⟩ := h
  refine ⟨?_, fun i j hij hj => ?_⟩
  · have e : (d'.extract 0 d.size) = d' := by rw [← h1]; simp
    rw [e] at h3
    simpa using h3
  · have := h4 i j (Nat.zero_le _) hij (by rw [← h1]; simpa using hj)
    rw [at_list, at_list]
    exact of_decide_eq_false this

set_option maxHeartbeats 1000000 in
theorem r190small (C : CPq M) (hb : b < h.length) (hc : CmpM M g c) (d : Array Mk) (hd : d.size = n) (hn : n ≤ 12) (r : Int) :
    ∃ wr, Only b wr ∧ CT M (fnM 190) [.sl b 0 n 3 cap, .int .i64 0, .int .i64 n, .int .i64 r, g] (mh h b d.toList) ⟨.tup [], mh h b (insertionSort (ltOf c) d 0 n).toList, wr⟩ := by
  obtain ⟨wr, hw, hcc⟩ := r231 (cap := cap) C hb (by omega) hc d hd 0 n (by omega) (by omega)
  have hcc' : CT M (fnM 231) [.sl b 0 n 3 cap, .int .i64 0, .int .i64 n, g] (mh h b d.toList) ⟨.tup [], mh h b (insertionSort (ltOf c) d 0 n).toList, wr⟩ := hcc
  refine run_mh (by rw [C.ft]; exact ft190) (by simp) C.n190 hb ?_
  unfold b190
  simp only [List.map_cons, List.map_nil, List.getElem?_cons_zero, List.getElem?_cons_succ, List.getElem?_nil, Option.getD_some, Option.getD_none]
  repeat' first | apply W.seq | apply SQn | apply W.region | apply WO.nil | apply W.block | apply W.ret | apply W.exit | apply W.skip | apply SQr | apply SQe | apply BQn | apply BQr | apply BQe | (apply BQo; exact rfl) | apply LQe | apply LQr | (apply W.drawro; exact rfl) | apply W.draw | apply WD.nil | (apply WD.gT; exact rfl) | (apply WD.gF; exact rfl) | (apply WD.sT; exact rfl) | (apply WD.sF; exact rfl) | (apply WD.sU; exact rfl) | (apply WD.pure1; exact rfl) | (apply WD.load1; exact rfl; exact rfl; exact rfl) | (apply WD.clb; exact rfl; exact rfl; exact rfl; exact rfl; all_goals first | (intro h; exact absurd h (by decide)) | intro _) | (apply WD.cl0; exact rfl; exact rfl; exact rfl; exact rfl) | (apply WD.cl1; exact rfl; exact rfl; exact rfl; exact rfl) | (apply W.condT; exact rfl) | (apply W.condF; exact rfl) | (apply W.cond; exact rfl; all_goals intro _) | (apply WO.gT; exact rfl) | (apply WO.gF; exact rfl) | (apply WO.sT; exact rfl) | (apply WO.sF; exact rfl) | (apply WO.sU; exact rfl) | (apply WO.lss; exact rfl; exact rfl; all_goals first | (intro _; exfalso; omega) | intro _) | (apply WO.leq; exact rfl; exact rfl; all_goals first | (intro _; exfalso; omega) | intro _) | (apply WO.gtr; exact rfl; exact rfl; all_goals first | (intro _; exfalso; omega) | intro _) | (apply WO.geq; exact rfl; exact rfl; all_goals first | (intro _; exfalso; omega) | intro _) | (apply WO.eql; exact rfl; exact rfl; all_goals first | (intro _; exfalso; omega) | intro _) | (apply WO.pkT; exact rfl; exact rfl) | (apply WO.pkF; exact rfl; exact rfl) | (apply WO.add; exact rfl; exact rfl; omega) | (apply WO.sub; exact rfl; exact rfl; omega) | (apply WO.quop; exact rfl; exact rfl; omega; omega; intro _ _) | (apply WO.quon; exact rfl; exact rfl; omega; omega; intro _ _) | (apply WO.quo; exact rfl; exact rfl; omega; omega) | (apply WO.iav; exact rfl; exact rfl; omega) | (apply WO.ias; exact rfl; exact rfl; omega) | (apply WO.lda; exact rfl; exact fun _ => rfl; (first | omega | (simp only [List.length_set]; omega) | (simp; omega)); decide; exact rfl; case ia => infer_instance) | (apply WO.lsa; exact rfl; (first | exact rfl | assumption | exact at_new | (apply at_old; assumption) | (apply at_put; first | assumption | (simp only [put_length]; assumption))); exact fun _ => rfl; (first | omega | (simp only [List.length_set]; omega) | (simp; omega)); decide; exact rfl; case ia => infer_instance) | (apply WO.seql; exact rfl; exact rfl; all_goals first | (intro h; exact absurd h (by decide)) | (intro h; exact absurd rfl h) | (intro h; contradiction) | intro _) | (apply WO.clb; exact rfl; exact rfl; exact rfl; all_goals first | (intro h; exact absurd h (by decide)) | intro _) | (apply WO.cll; exact rfl; exact rfl; exact rfl) | (apply WO.hlv; exact rfl; exact rfl; exact rfl) | (apply WO.hpv; exact rfl; exact rfl; exact rfl) | (apply WO.hnv; exact rfl; exact rfl; exact rfl) | (apply WO.pl; exact rfl; exact rfl) | (apply WO.pp; exact rfl; exact rfl)
  refine W.loop ?_
  unfold b190_0
  repeat' first | apply W.seq | apply SQn | apply W.region | apply WO.nil | apply W.block | apply W.ret | apply W.exit | apply W.skip | apply SQr | apply SQe | apply BQn | apply BQr | apply BQe | (apply BQo; exact rfl) | apply LQe | apply LQr | (apply W.drawro; exact rfl) | apply W.draw | apply WD.nil | (apply WD.gT; exact rfl) | (apply WD.gF; exact rfl) | (apply WD.sT; exact rfl) | (apply WD.sF; exact rfl) | (apply WD.sU; exact rfl) | (apply WD.pure1; exact rfl) | (apply WD.load1; exact rfl; exact rfl; exact rfl) | (apply WD.clb; exact rfl; exact rfl; exact rfl; exact rfl; all_goals first | (intro h; exact absurd h (by decide)) | intro _) | (apply WD.cl0; exact rfl; exact rfl; exact rfl; exact rfl) | (apply WD.cl1; exact rfl; exact rfl; exact rfl; exact rfl) | (apply W.condT; exact rfl) | (apply W.condF; exact rfl) | (apply W.cond; exact rfl; all_goals intro _) | (apply WO.gT; exact rfl) | (apply WO.gF; exact rfl) | (apply WO.sT; exact rfl) | (apply WO.sF; exact rfl) | (apply WO.sU; exact rfl) | (apply WO.lss; exact rfl; exact rfl; all_goals first | (intro _; exfalso; omega) | intro _) | (apply WO.leq; exact rfl; exact rfl; all_goals first | (intro _; exfalso; omega) | intro _) | (apply WO.gtr; exact rfl; exact rfl; all_goals first | (intro _; exfalso; omega) | intro _) | (apply WO.geq; exact rfl; exact rfl; all_goals first | (intro _; exfalso; omega) | intro _) | (apply WO.eql; exact rfl; exact rfl; all_goals first | (intro _; exfalso; omega) | intro _) | (apply WO.pkT; exact rfl; exact rfl) | (apply WO.pkF; exact rfl; exact rfl) | (apply WO.add; exact rfl; exact rfl; omega) | (apply WO.sub; exact rfl; exact rfl; omega) | (apply WO.quop; exact rfl; exact rfl; omega; omega; intro _ _) | (apply WO.quon; exact rfl; exact rfl; omega; omega; intro _ _) | (apply WO.quo; exact rfl; exact rfl; omega; omega) | (apply WO.ct; exact rfl; exact rfl; first | exact hcc') | (apply WO.ctn; exact rfl; exact rfl; first | exact hcc') | (apply WD.ct; exact rfl; exact rfl; exact rfl; first | exact hcc') | (apply WO.iav; exact rfl; exact rfl; omega) | (apply WO.ias; exact rfl; exact rfl; omega) | (apply WO.lda; exact rfl; exact fun _ => rfl; (first | omega | (simp only [List.length_set]; omega) | (simp; omega)); decide; exact rfl; case ia => infer_instance) | (apply WO.lsa; exact rfl; (first | exact rfl | assumption | exact at_new | (apply at_old; assumption) | (apply at_put; first | assumption | (simp only [put_length]; assumption))); exact fun _ => rfl; (first | omega | (simp only [List.length_set]; omega) | (simp; omega)); decide; exact rfl; case ia => infer_instance) | (apply WO.seql; exact rfl; exact rfl; all_goals first | (intro h; exact absurd h (by decide)) | (intro h; exact absurd rfl h) | (intro h; contradiction) | intro _) | (apply WO.clb; exact rfl; exact rfl; exact rfl; all_goals first | (intro h; exact absurd h (by decide)) | intro _) | (apply WO.cll; exact rfl; exact rfl; exact rfl) | (apply WO.hlv; exact rfl; exact rfl; exact rfl) | (apply WO.hpv; exact rfl; exact rfl; exact rfl) | (apply WO.hnv; exact rfl; exact rfl; exact rfl) | (apply WO.pl; exact rfl; exact rfl) | (apply WO.pp; exact rfl; exact rfl)
  exact ⟨.inr rfl, rfl, _, rfl, hw.app Only.nil, rfl⟩

theorem sorts12 (C : CPq M) (hc : CmpM M g c) {key : Mk → Int} (hk : ∀ x y, c x y < 0 ↔ key y < key x) : SortsM M g c 12 := by
  intro h b cap l hb hl
  obtain ⟨d, rfl⟩ : ∃ d : Array Mk, d.toList = l := ⟨l.toArray, by simp⟩
  obtain ⟨r, hr, h191⟩ := r191 C d.size (by simp at hl; omega) (mh h b d.toList)
  obtain ⟨wr, hw, h190⟩ := r190small (cap := cap) C hb hc d rfl (by simpa using hl) r
  have hs := Go.Sort.insertionSort_holds (swo_of hk) d 0 d.size (Nat.zero_le _) (Nat.le_refl _)
  obtain ⟨s1, s2⟩ := sorted_of hs
  have e : d.toList.length = d.size := by simp
  rw [e]
  have hl' : d.size ≤ 12 := by simpa using hl
  obtain ⟨wr', hw', h131⟩ := run_mh (M := M) (l := d.toList) (l' := (insertionSort (ltOf c) d 0 d.size).toList) (b := b) (h := h) (f := 131) (ars := [.sl b 0 d.size 3 cap, g]) (by rw [C.ft]; exact ft131) (by simp) C.n131 hb (by
    unfold b131
    simp only [List.map_cons, List.map_nil, List.getElem?_cons_zero, List.getElem?_cons_succ, List.getElem?_nil, Option.getD_some, Option.getD_none]
    repeat' first | apply W.seq | apply SQn | apply W.region | apply WO.nil | apply W.block | apply W.ret | apply W.exit | apply W.skip | apply SQr | apply SQe | apply BQn | apply BQr | apply BQe | (apply BQo; exact rfl) | apply LQe | apply LQr | (apply W.condT; exact rfl) | (apply W.condF; exact rfl) | (apply W.cond; exact rfl; all_goals intro _) | (apply WO.cvu; exact rfl; omega) | (apply WO.ct; exact rfl; exact rfl; first | exact h191 | exact h190) | (apply WO.ctn; exact rfl; exact rfl; first | exact h191 | exact h190) | (apply WD.ct; exact rfl; exact rfl; exact rfl; first | exact h191 | exact h190) | (apply WO.clb; exact rfl; exact rfl; exact rfl; all_goals first | (intro h; exact absurd h (by decide)) | intro _) | (apply WO.cll; exact rfl; exact rfl; exact rfl) | (apply WO.pl; exact rfl; exact rfl) | (apply WO.pp; exact rfl; exact rfl)
    exact ⟨.inl rfl, rfl, _, rfl, hw.app Only.nil, rfl⟩)
  exact ⟨_, wr', hw', s1, s2, h131⟩
end Go.Ab.Ch1

