/-
  Own work: MarkShuffles: for every key and every number of elements the law answers true; no condition but the laid tables.
-/
import Derived.Test.YtcjphdmkgmkabaaGreatDoorLib3
import Derived.Test.YtcjphdmkgmkabaaGreatDoorCards
import Derived.Test.YtcjphdmkgmkabaaGreatDoorTie
import Derived.SevenTiedAt
import Derived.JoinedCond
namespace Go.Proofs.YtcjphdmkgmkabaaGreatDoor.markShuffles
open Go.Ab Go.Ab.Ch1 Go.ChangeShapes Go.WideShapes Go.ChangeAt Go.RowKit

def T9 : List (Nat × Ab.Spec) := [(18, s18), (19, s19), (20, s20)]
theorem T9_ok : ExtOK Tryz.prog gl (extS T9) := tab_cons s18_ok (tab_cons s19_ok (tab_cons s20_ok tab_nil))
theorem law (key n : Int) : Run (mach Tryz.prog Go.Ab.Ch1.FT T9) 9 [.int .i64 key, .int .i64 n] [] ⟨.bool true, [], []⟩ :=
  w9 mach_ft (fun h => by rw [mach_ext]; exact s18_eq h) (fun _ _ _ => by rw [mach_ext]; rfl) (fun key n h h0 h1 h2 => by rw [mach_ext]; exact s19_eq key n h h0 h1 h2) key n

set_option maxRecDepth 100000 in
theorem contract (H : Type) (enc : TypeId × Value → H) (W : World) (base : Nat) (args : Array Value) (ds gs : List (DataW H)) (before : List MemPlace)
    (hval : ∀ (j : Nat) t v, Tryz.f9.params[j]? = some t → args[j]? = some v → Value.okWide Tryz.prog W .any base t v)
    (hW : DataW.Whole enc Tryz.prog Tryz.f9.params.toList Rows.markShufflesSpec.vars false W args.toList ds gs before) (hL : laidMetH Tryz.prog Rows.markShufflesRow.laid W) :
    Calls Tryz.prog 9 args W fun e W' => ∃ v, e = .returned v ∧ Rows.markShufflesSpec.post enc Tryz.prog Tryz.f9 false true false false W args v W' := by
  have hW' := hW
  obtain ⟨p, q, hA0, hV, rfl, hfz, hnd⟩ := hW
  have hA : DataW.TrodAll enc Tryz.prog W 0 (fun _ => true) true Tryz.f9.params.toList args.toList ds p := hA0
  rw [Tryz.params9] at hA hval
  obtain ⟨v0, vs0, d0, ds0, p0, q0, hargs, rfl, rfl, h0, r0⟩ := trodAll_cons hA
  obtain ⟨v1, vs1, d1, ds1, p1, q1, rfl, rfl, rfl, h1, r1⟩ := trodAll_cons r0
  obtain ⟨rfl, rfl, rfl⟩ := trodAll_nil r1
  obtain rfl : args = #[v0, v1] := by cases args; simp_all
  obtain ⟨rfl, rfl⟩ := trodVars_none hV
  obtain ⟨key, rfl, rfl, rfl, w0⟩ := open_int und3 (hval 0 3 v0 rfl rfl) h0
  obtain ⟨n, rfl, rfl, rfl, w1⟩ := open_int und3 (hval 1 3 v1 rfl rfl) h1
  clear hA0
  refine (calls_true seat T9_ok (law key n) (gl_of_tab (tab_of_laid (by kernel_rfl) hL)) (.cons (.int _ _) (.cons (.int _ _) .nil))).mono fun e W' ⟨he, hb⟩ => ?_
  subst he
  exact ⟨_, rfl, law_post hW' laidOut (by rw [Tryz.params9]; exact fun t ht => by simp at ht; subst ht; exact ⟨by kernel_rfl, of_decide_eq_true (by kernel_rfl)⟩) rfl hb und4 (by kernel_rfl) rfl rfl rfl⟩

theorem reads (os : Os) {H : Type} (enc : TypeId × Value → H) : ∃ places, DataW.whole enc Tryz.prog ((laidWorld os).forCall (fun _ _ => 0) ⟨#[], #[.int .i64 0, .int .i64 0], []⟩).memory Tryz.f9.params.toList Rows.markShufflesSpec.vars false #[Value.int .i64 0, .int .i64 0].toList 8 = some ([.lit (.int .i64 0), .lit (.int .i64 0)], [], places) :=
  ⟨[], by kernel_rfl⟩

set_option maxRecDepth 100000 in
theorem lifted (os : Os) (started : os.Started) (H : Type) (enc : TypeId × Value → H) (F : Stop.Interp) :
    ReturnsInHanded {} Tryz.checked os 9 .any ((OpenSpec.ofChange Rows.markShufflesSpec).preRow enc Tryz.prog Tryz.f9 Rows.markShufflesRow.domain false Rows.markShufflesRow.laid) (((OpenSpec.ofChange Rows.markShufflesSpec).at F).post enc Tryz.prog Tryz.f9 false true false false) := by
  obtain ⟨places, hx⟩ := reads os enc
  refine returnsInHanded_of_row (C := Tryz.checked) (s := OpenSpec.ofChange Rows.markShufflesSpec) own started (by kernel_rfl) Tryz.func9
    (witness_row_atRef (enc := enc) (C := Tryz.checked) false (laidWorld os) #[.int .i64 0, .int .i64 0] rfl (by kernel_rfl) (by kernel_rfl) (by kernel_rfl)
      (OpenSpec.preRow_of_cond 8 hx (by kernel_rfl) (fun k hk => by cases hk) (by kernel_rfl) (laid_met os _))) ?_
  intro W base args ds gs before hval hW _ _ _ hL _ _
  exact contract H enc W base args ds gs before hval hW hL

theorem said : Rows.MarkShufflesSaid :=
  OpenClaim.holds_of_cond 9 Tryz.f9 rfl rfl rfl rfl rfl rfl rfl ⟨rfl, rfl, rfl, rfl, rfl⟩ rfl rfl rfl rfl rfl named Tryz.func9 closed
    (of_decide_eq_true (by kernel_rfl)) (by unfold Func.isWrapper; first | (rw [if_pos (by decide +kernel)]; kernel_rfl) | (rw [if_neg (by decide +kernel)]; exact ⟨rfl, rfl⟩))
    (fun os started H enc _ F => by rw [OpenClaim.pre_eq_preRow]; exact lifted os started H enc F)

theorem card : Rows.MarkShufflesCardSaid :=
  Claim7.holds_tied_plain_at .later [] _ _ _ _ said (fun _ h => by cases h) wfText (fun _ h => by cases h) markShuffles_row_tie rfl ⟨rfl, rfl⟩ mainIs rfl plain goesF
#print axioms card
end Go.Proofs.YtcjphdmkgmkabaaGreatDoor.markShuffles
