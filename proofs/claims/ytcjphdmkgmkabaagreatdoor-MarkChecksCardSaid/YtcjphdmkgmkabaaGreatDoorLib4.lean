/-
  Own work: marks of chapter 1: the reference's rounding, winds, the law's own helpers.
-/
import Derived.Test.YtcjphdmkgmkabaaGreatDoorLib3
namespace Go.Ab.Ch1
variable {inv : InvF} {F : FuncId → Option IFunc}

def stepS (c : List UInt8) : Int := if c = sHund then 100 else if c = sTenths then 1000 else if c = sCent then 10 else if c = sExact then 1 else 0
def stepK (c : List UInt8) : List UInt8 := if c = sHund then sTime else if c = sTenths then sTime else if c = sCent then sLength else []
def specStep : Spec := fun
  | [.str c], h => some ⟨.tup [.int .i64 (stepS c), .str (stepK c)], h, []⟩
  | _, _ => none
theorem w69 {T : List (Nat × Spec)} (hft : F = FT) (c : List UInt8) : Run (mk0 T inv F) 69 [.str c] [] ⟨.tup [.int .i64 (stepS c), .str (stepK c)], [], []⟩ := by
  refine run_of_W (show F 69 = _ from by rw [hft]; exact ft69) (by simp) ?_
  unfold b69
  simp only [List.map_cons, List.map_nil, List.getElem?_cons_zero, List.getElem?_cons_succ, List.getElem?_nil, Option.getD_some, Option.getD_none]
  repeat' first | apply W.seq | apply SQn | apply W.region | apply WO.nil | apply W.block | apply W.ret | apply W.exit | apply W.skip | apply SQr | apply SQe | apply BQn | apply BQr | apply BQe | (apply BQo; exact rfl) | apply LQe | apply LQr | (apply W.condT; exact rfl) | (apply W.condF; exact rfl) | (apply W.cond; exact rfl; all_goals intro _) | (apply WO.eql; exact rfl; exact rfl; all_goals first | (intro _; exfalso; omega) | intro _) | (apply WO.seql; exact rfl; exact rfl; all_goals first | (intro h; exact absurd h (by decide)) | (intro h; exact absurd rfl h) | (intro h; contradiction) | intro _) | (apply WO.pl; exact rfl; exact rfl) | (apply WO.pp; exact rfl; exact rfl)
  all_goals exact ⟨.inr rfl, rfl, _, rfl, by simp [tupA, stepS, stepK, *], rfl⟩

def specMost : Spec := fun
  | [.str k], h => some ⟨.int .i64 (kMost k), h, []⟩
  | _, _ => none
def TRefRound : List (Nat × Spec) := [(69, specStep), (111, specMost)]
set_option maxHeartbeats 8000000 in
theorem w41 (hft : F = FT) (k : List UInt8) (v : Int) (r c : List UInt8) (he : chk k v r = 0) : Run (mk0 TRefRound inv F) 41 [mkM k v r, .str c] [] ⟨roundT k v r c, [], []⟩ := by
  refine run_of_W (show F 41 = _ from by rw [hft]; exact ft41) (by simp) ?_
  unfold b41
  simp only [List.map_cons, List.map_nil, List.getElem?_cons_zero, List.getElem?_cons_succ, List.getElem?_nil, Option.getD_some, Option.getD_none]
  have hmN : ∀ h, (mk0 TRefRound inv F).ext 111 [.str sNone] h = some ⟨.int .i64 99999, h, []⟩ := fun _ => rfl
  have hmT : ∀ h, (mk0 TRefRound inv F).ext 111 [.str sTime] h = some ⟨.int .i64 863999999, h, []⟩ := fun _ => rfl
  have hmL : ∀ h, (mk0 TRefRound inv F).ext 111 [.str sLength] h = some ⟨.int .i64 999999, h, []⟩ := fun _ => rfl
  have hmP : ∀ h, (mk0 TRefRound inv F).ext 111 [.str sPoints] h = some ⟨.int .i64 99999, h, []⟩ := fun _ => rfl
  rcases class_cases c with rfl | rfl | rfl | rfl | ⟨c1, c2, c3, c4⟩
  · have hs : ∀ h, (mk0 TRefRound inv F).ext 69 [.str sExact] h = some ⟨.tup [.int .i64 1, .str []], h, []⟩ := fun _ => rfl
    rcases chk_zero he with ⟨rfl, hr, rfl⟩ | ⟨hk, rfl | rfl | rfl, rfl, hl, hm⟩
    all_goals try simp only [kLeast, kMost] at hl hm
    all_goals try simp (decide := true) at hl hm
    · repeat' first | apply W.seq | apply SQn | apply W.region | apply WO.nil | apply W.block | apply W.ret | apply W.exit | apply W.skip | apply SQr | apply SQe | apply BQn | apply BQr | apply BQe | (apply BQo; exact rfl) | apply LQe | apply LQr | (apply W.drawro; exact rfl) | apply W.draw | apply WD.nil | (apply WD.gT; exact rfl) | (apply WD.gF; exact rfl) | (apply WD.sT; exact rfl) | (apply WD.sF; exact rfl) | (apply WD.sU; exact rfl) | (apply WD.pure1; exact rfl) | (apply WD.load1; exact rfl; exact rfl; exact rfl) | (apply WD.store1; exact rfl; exact rfl; exact rfl) | (apply WD.new1; exact rfl) | (apply WD.clb; exact rfl; exact rfl; exact rfl; exact rfl; all_goals first | (intro h; exact absurd h (by decide)) | intro _) | (apply WD.cl0; exact rfl; exact rfl; exact rfl; exact rfl) | (apply WD.cl1; exact rfl; exact rfl; exact rfl; exact rfl) | (apply W.condT; exact rfl) | (apply W.condF; exact rfl) | (apply W.cond; exact rfl; all_goals intro _) | (apply WO.gT; exact rfl) | (apply WO.gF; exact rfl) | (apply WO.sT; exact rfl) | (apply WO.sF; exact rfl) | (apply WO.sU; exact rfl) | (apply WO.lss; exact rfl; exact rfl; all_goals first | (intro _; exfalso; omega) | intro _) | (apply WO.gtr; exact rfl; exact rfl; all_goals first | (intro _; exfalso; omega) | intro _) | (apply WO.eql; exact rfl; exact rfl; all_goals first | (intro _; exfalso; omega) | intro _) | (apply WO.neq; exact rfl; exact rfl; all_goals first | (intro _; exfalso; omega) | intro _) | (apply WO.pkT; exact rfl; exact rfl) | (apply WO.pkF; exact rfl; exact rfl) | (apply WO.add; exact rfl; exact rfl; omega) | (apply WO.mul; exact rfl; exact rfl; omega) | (apply WO.quop; exact rfl; exact rfl; omega; omega; intro _ _) | (apply WO.quon; exact rfl; exact rfl; omega; omega; intro _ _) | (apply WO.quo; exact rfl; exact rfl; omega; omega) | (apply WO.cll; exact rfl; exact rfl; first | exact hs _) | (apply WD.cl0; exact rfl; exact rfl; exact rfl; first | exact hmN _ | exact hmT _ | exact hmL _ | exact hmP _) | (apply WO.seql; exact rfl; exact rfl; all_goals first | (intro h; exact absurd h (by decide)) | (intro h; exact absurd rfl h) | (intro h; contradiction) | intro _) | (apply WO.sneq; exact rfl; exact rfl; all_goals first | (intro h; exact absurd h (by decide)) | (intro h; exact absurd rfl h) | (intro h; contradiction) | intro _) | (apply WO.clb; exact rfl; exact rfl; exact rfl; all_goals first | (intro h; exact absurd h (by decide)) | intro _) | (apply WO.cll; exact rfl; exact rfl; exact rfl) | (apply WO.hlv; exact rfl; exact rfl; exact rfl) | (apply WO.hpv; exact rfl; exact rfl; exact rfl) | (apply WO.hnv; exact rfl; exact rfl; exact rfl) | (apply WO.pl; exact rfl; exact rfl) | (apply WO.pp; exact rfl; exact rfl)
      all_goals refine ⟨.inr rfl, rfl, _, rfl, ?_, rfl⟩
      all_goals simp_all [tupA, roundK, roundR, roundN, roundE, kMost, overwrite, isClass]
      all_goals omega
    · repeat' first | apply W.seq | apply SQn | apply W.region | apply WO.nil | apply W.block | apply W.ret | apply W.exit | apply W.skip | apply SQr | apply SQe | apply BQn | apply BQr | apply BQe | (apply BQo; exact rfl) | apply LQe | apply LQr | (apply W.drawro; exact rfl) | apply W.draw | apply WD.nil | (apply WD.gT; exact rfl) | (apply WD.gF; exact rfl) | (apply WD.sT; exact rfl) | (apply WD.sF; exact rfl) | (apply WD.sU; exact rfl) | (apply WD.pure1; exact rfl) | (apply WD.load1; exact rfl; exact rfl; exact rfl) | (apply WD.store1; exact rfl; exact rfl; exact rfl) | (apply WD.new1; exact rfl) | (apply WD.clb; exact rfl; exact rfl; exact rfl; exact rfl; all_goals first | (intro h; exact absurd h (by decide)) | intro _) | (apply WD.cl0; exact rfl; exact rfl; exact rfl; exact rfl) | (apply WD.cl1; exact rfl; exact rfl; exact rfl; exact rfl) | (apply W.condT; exact rfl) | (apply W.condF; exact rfl) | (apply W.cond; exact rfl; all_goals intro _) | (apply WO.gT; exact rfl) | (apply WO.gF; exact rfl) | (apply WO.sT; exact rfl) | (apply WO.sF; exact rfl) | (apply WO.sU; exact rfl) | (apply WO.lss; exact rfl; exact rfl; all_goals first | (intro _; exfalso; omega) | intro _) | (apply WO.gtr; exact rfl; exact rfl; all_goals first | (intro _; exfalso; omega) | intro _) | (apply WO.eql; exact rfl; exact rfl; all_goals first | (intro _; exfalso; omega) | intro _) | (apply WO.neq; exact rfl; exact rfl; all_goals first | (intro _; exfalso; omega) | intro _) | (apply WO.pkT; exact rfl; exact rfl) | (apply WO.pkF; exact rfl; exact rfl) | (apply WO.add; exact rfl; exact rfl; omega) | (apply WO.mul; exact rfl; exact rfl; omega) | (apply WO.quop; exact rfl; exact rfl; omega; omega; intro _ _) | (apply WO.quon; exact rfl; exact rfl; omega; omega; intro _ _) | (apply WO.quo; exact rfl; exact rfl; omega; omega) | (apply WO.cll; exact rfl; exact rfl; first | exact hs _) | (apply WD.cl0; exact rfl; exact rfl; exact rfl; first | exact hmN _ | exact hmT _ | exact hmL _ | exact hmP _) | (apply WO.seql; exact rfl; exact rfl; all_goals first | (intro h; exact absurd h (by decide)) | (intro h; exact absurd rfl h) | (intro h; contradiction) | intro _) | (apply WO.sneq; exact rfl; exact rfl; all_goals first | (intro h; exact absurd h (by decide)) | (intro h; exact absurd rfl h) | (intro h; contradiction) | intro _) | (apply WO.clb; exact rfl; exact rfl; exact rfl; all_goals first | (intro h; exact absurd h (by decide)) | intro _) | (apply WO.cll; exact rfl; exact rfl; exact rfl) | (apply WO.hlv; exact rfl; exact rfl; exact rfl) | (apply WO.hpv; exact rfl; exact rfl; exact rfl) | (apply WO.hnv; exact rfl; exact rfl; exact rfl) | (apply WO.pl; exact rfl; exact rfl) | (apply WO.pp; exact rfl; exact rfl)
      all_goals refine ⟨.inr rfl, rfl, _, rfl, ?_, rfl⟩
      all_goals simp_all [tupA, roundK, roundR, roundN, roundE, stepOf, roundV, kMost, overwrite]
      all_goals omega
    · repeat' first | apply W.seq | apply SQn | apply W.region | apply WO.nil | apply W.block | apply W.ret | apply W.exit | apply W.skip | apply SQr | apply SQe | apply BQn | apply BQr | apply BQe | (apply BQo; exact rfl) | apply LQe | apply LQr | (apply W.drawro; exact rfl) | apply W.draw | apply WD.nil | (apply WD.gT; exact rfl) | (apply WD.gF; exact rfl) | (apply WD.sT; exact rfl) | (apply WD.sF; exact rfl) | (apply WD.sU; exact rfl) | (apply WD.pure1; exact rfl) | (apply WD.load1; exact rfl; exact rfl; exact rfl) | (apply WD.store1; exact rfl; exact rfl; exact rfl) | (apply WD.new1; exact rfl) | (apply WD.clb; exact rfl; exact rfl; exact rfl; exact rfl; all_goals first | (intro h; exact absurd h (by decide)) | intro _) | (apply WD.cl0; exact rfl; exact rfl; exact rfl; exact rfl) | (apply WD.cl1; exact rfl; exact rfl; exact rfl; exact rfl) | (apply W.condT; exact rfl) | (apply W.condF; exact rfl) | (apply W.cond; exact rfl; all_goals intro _) | (apply WO.gT; exact rfl) | (apply WO.gF; exact rfl) | (apply WO.sT; exact rfl) | (apply WO.sF; exact rfl) | (apply WO.sU; exact rfl) | (apply WO.lss; exact rfl; exact rfl; all_goals first | (intro _; exfalso; omega) | intro _) | (apply WO.gtr; exact rfl; exact rfl; all_goals first | (intro _; exfalso; omega) | intro _) | (apply WO.eql; exact rfl; exact rfl; all_goals first | (intro _; exfalso; omega) | intro _) | (apply WO.neq; exact rfl; exact rfl; all_goals first | (intro _; exfalso; omega) | intro _) | (apply WO.pkT; exact rfl; exact rfl) | (apply WO.pkF; exact rfl; exact rfl) | (apply WO.add; exact rfl; exact rfl; omega) | (apply WO.mul; exact rfl; exact rfl; omega) | (apply WO.quop; exact rfl; exact rfl; omega; omega; intro _ _) | (apply WO.quon; exact rfl; exact rfl; omega; omega; intro _ _) | (apply WO.quo; exact rfl; exact rfl; omega; omega) | (apply WO.cll; exact rfl; exact rfl; first | exact hs _) | (apply WD.cl0; exact rfl; exact rfl; exact rfl; first | exact hmN _ | exact hmT _ | exact hmL _ | exact hmP _) | (apply WO.seql; exact rfl; exact rfl; all_goals first | (intro h; exact absurd h (by decide)) | (intro h; exact absurd rfl h) | (intro h; contradiction) | intro _) | (apply WO.sneq; exact rfl; exact rfl; all_goals first | (intro h; exact absurd h (by decide)) | (intro h; exact absurd rfl h) | (intro h; contradiction) | intro _) | (apply WO.clb; exact rfl; exact rfl; exact rfl; all_goals first | (intro h; exact absurd h (by decide)) | intro _) | (apply WO.cll; exact rfl; exact rfl; exact rfl) | (apply WO.hlv; exact rfl; exact rfl; exact rfl) | (apply WO.hpv; exact rfl; exact rfl; exact rfl) | (apply WO.hnv; exact rfl; exact rfl; exact rfl) | (apply WO.pl; exact rfl; exact rfl) | (apply WO.pp; exact rfl; exact rfl)
      all_goals refine ⟨.inr rfl, rfl, _, rfl, ?_, rfl⟩
      all_goals simp_all [tupA, roundK, roundR, roundN, roundE, stepOf, roundV, kMost, overwrite]
      all_goals omega
    · repeat' first | apply W.seq | apply SQn | apply W.region | apply WO.nil | apply W.block | apply W.ret | apply W.exit | apply W.skip | apply SQr | apply SQe | apply BQn | apply BQr | apply BQe | (apply BQo; exact rfl) | apply LQe | apply LQr | (apply W.drawro; exact rfl) | apply W.draw | apply WD.nil | (apply WD.gT; exact rfl) | (apply WD.gF; exact rfl) | (apply WD.sT; exact rfl) | (apply WD.sF; exact rfl) | (apply WD.sU; exact rfl) | (apply WD.pure1; exact rfl) | (apply WD.load1; exact rfl; exact rfl; exact rfl) | (apply WD.store1; exact rfl; exact rfl; exact rfl) | (apply WD.new1; exact rfl) | (apply WD.clb; exact rfl; exact rfl; exact rfl; exact rfl; all_goals first | (intro h; exact absurd h (by decide)) | intro _) | (apply WD.cl0; exact rfl; exact rfl; exact rfl; exact rfl) | (apply WD.cl1; exact rfl; exact rfl; exact rfl; exact rfl) | (apply W.condT; exact rfl) | (apply W.condF; exact rfl) | (apply W.cond; exact rfl; all_goals intro _) | (apply WO.gT; exact rfl) | (apply WO.gF; exact rfl) | (apply WO.sT; exact rfl) | (apply WO.sF; exact rfl) | (apply WO.sU; exact rfl) | (apply WO.lss; exact rfl; exact rfl; all_goals first | (intro _; exfalso; omega) | intro _) | (apply WO.gtr; exact rfl; exact rfl; all_goals first | (intro _; exfalso; omega) | intro _) | (apply WO.eql; exact rfl; exact rfl; all_goals first | (intro _; exfalso; omega) | intro _) | (apply WO.neq; exact rfl; exact rfl; all_goals first | (intro _; exfalso; omega) | intro _) | (apply WO.pkT; exact rfl; exact rfl) | (apply WO.pkF; exact rfl; exact rfl) | (apply WO.add; exact rfl; exact rfl; omega) | (apply WO.mul; exact rfl; exact rfl; omega) | (apply WO.quop; exact rfl; exact rfl; omega; omega; intro _ _) | (apply WO.quon; exact rfl; exact rfl; omega; omega; intro _ _) | (apply WO.quo; exact rfl; exact rfl; omega; omega) | (apply WO.cll; exact rfl; exact rfl; first | exact hs _) | (apply WD.cl0; exact rfl; exact rfl; exact rfl; first | exact hmN _ | exact hmT _ | exact hmL _ | exact hmP _) | (apply WO.seql; exact rfl; exact rfl; all_goals first | (intro h; exact absurd h (by decide)) | (intro h; exact absurd rfl h) | (intro h; contradiction) | intro _) | (apply WO.sneq; exact rfl; exact rfl; all_goals first | (intro h; exact absurd h (by decide)) | (intro h; exact absurd rfl h) | (intro h; contradiction) | intro _) | (apply WO.clb; exact rfl; exact rfl; exact rfl; all_goals first | (intro h; exact absurd h (by decide)) | intro _) | (apply WO.cll; exact rfl; exact rfl; exact rfl) | (apply WO.hlv; exact rfl; exact rfl; exact rfl) | (apply WO.hpv; exact rfl; exact rfl; exact rfl) | (apply WO.hnv; exact rfl; exact rfl; exact rfl) | (apply WO.pl; exact rfl; exact rfl) | (apply WO.pp; exact rfl; exact rfl)
      all_goals refine ⟨.inr rfl, rfl, _, rfl, ?_, rfl⟩
      all_goals simp_all [tupA, roundK, roundR, roundN, roundE, stepOf, roundV, kMost, overwrite]
      all_goals omega
  · have hs : ∀ h, (mk0 TRefRound inv F).ext 69 [.str sHund] h = some ⟨.tup [.int .i64 100, .str sTime], h, []⟩ := fun _ => rfl
    rcases chk_zero he with ⟨rfl, hr, rfl⟩ | ⟨hk, rfl | rfl | rfl, rfl, hl, hm⟩
    all_goals try simp only [kLeast, kMost] at hl hm
    all_goals try simp (decide := true) at hl hm
    · repeat' first | apply W.seq | apply SQn | apply W.region | apply WO.nil | apply W.block | apply W.ret | apply W.exit | apply W.skip | apply SQr | apply SQe | apply BQn | apply BQr | apply BQe | (apply BQo; exact rfl) | apply LQe | apply LQr | (apply W.drawro; exact rfl) | apply W.draw | apply WD.nil | (apply WD.gT; exact rfl) | (apply WD.gF; exact rfl) | (apply WD.sT; exact rfl) | (apply WD.sF; exact rfl) | (apply WD.sU; exact rfl) | (apply WD.pure1; exact rfl) | (apply WD.load1; exact rfl; exact rfl; exact rfl) | (apply WD.store1; exact rfl; exact rfl; exact rfl) | (apply WD.new1; exact rfl) | (apply WD.clb; exact rfl; exact rfl; exact rfl; exact rfl; all_goals first | (intro h; exact absurd h (by decide)) | intro _) | (apply WD.cl0; exact rfl; exact rfl; exact rfl; exact rfl) | (apply WD.cl1; exact rfl; exact rfl; exact rfl; exact rfl) | (apply W.condT; exact rfl) | (apply W.condF; exact rfl) | (apply W.cond; exact rfl; all_goals intro _) | (apply WO.gT; exact rfl) | (apply WO.gF; exact rfl) | (apply WO.sT; exact rfl) | (apply WO.sF; exact rfl) | (apply WO.sU; exact rfl) | (apply WO.lss; exact rfl; exact rfl; all_goals first | (intro _; exfalso; omega) | intro _) | (apply WO.gtr; exact rfl; exact rfl; all_goals first | (intro _; exfalso; omega) | intro _) | (apply WO.eql; exact rfl; exact rfl; all_goals first | (intro _; exfalso; omega) | intro _) | (apply WO.neq; exact rfl; exact rfl; all_goals first | (intro _; exfalso; omega) | intro _) | (apply WO.pkT; exact rfl; exact rfl) | (apply WO.pkF; exact rfl; exact rfl) | (apply WO.add; exact rfl; exact rfl; omega) | (apply WO.mul; exact rfl; exact rfl; omega) | (apply WO.quop; exact rfl; exact rfl; omega; omega; intro _ _) | (apply WO.quon; exact rfl; exact rfl; omega; omega; intro _ _) | (apply WO.quo; exact rfl; exact rfl; omega; omega) | (apply WO.cll; exact rfl; exact rfl; first | exact hs _) | (apply WD.cl0; exact rfl; exact rfl; exact rfl; first | exact hmN _ | exact hmT _ | exact hmL _ | exact hmP _) | (apply WO.seql; exact rfl; exact rfl; all_goals first | (intro h; exact absurd h (by decide)) | (intro h; exact absurd rfl h) | (intro h; contradiction) | intro _) | (apply WO.sneq; exact rfl; exact rfl; all_goals first | (intro h; exact absurd h (by decide)) | (intro h; exact absurd rfl h) | (intro h; contradiction) | intro _) | (apply WO.clb; exact rfl; exact rfl; exact rfl; all_goals first | (intro h; exact absurd h (by decide)) | intro _) | (apply WO.cll; exact rfl; exact rfl; exact rfl) | (apply WO.hlv; exact rfl; exact rfl; exact rfl) | (apply WO.hpv; exact rfl; exact rfl; exact rfl) | (apply WO.hnv; exact rfl; exact rfl; exact rfl) | (apply WO.pl; exact rfl; exact rfl) | (apply WO.pp; exact rfl; exact rfl)
      all_goals refine ⟨.inr rfl, rfl, _, rfl, ?_, rfl⟩
      all_goals simp_all [tupA, roundK, roundR, roundN, roundE, kMost, overwrite, isClass]
      all_goals omega
    · repeat' first | apply W.seq | apply SQn | apply W.region | apply WO.nil | apply W.block | apply W.ret | apply W.exit | apply W.skip | apply SQr | apply SQe | apply BQn | apply BQr | apply BQe | (apply BQo; exact rfl) | apply LQe | apply LQr | (apply W.drawro; exact rfl) | apply W.draw | apply WD.nil | (apply WD.gT; exact rfl) | (apply WD.gF; exact rfl) | (apply WD.sT; exact rfl) | (apply WD.sF; exact rfl) | (apply WD.sU; exact rfl) | (apply WD.pure1; exact rfl) | (apply WD.load1; exact rfl; exact rfl; exact rfl) | (apply WD.store1; exact rfl; exact rfl; exact rfl) | (apply WD.new1; exact rfl) | (apply WD.clb; exact rfl; exact rfl; exact rfl; exact rfl; all_goals first | (intro h; exact absurd h (by decide)) | intro _) | (apply WD.cl0; exact rfl; exact rfl; exact rfl; exact rfl) | (apply WD.cl1; exact rfl; exact rfl; exact rfl; exact rfl) | (apply W.condT; exact rfl) | (apply W.condF; exact rfl) | (apply W.cond; exact rfl; all_goals intro _) | (apply WO.gT; exact rfl) | (apply WO.gF; exact rfl) | (apply WO.sT; exact rfl) | (apply WO.sF; exact rfl) | (apply WO.sU; exact rfl) | (apply WO.lss; exact rfl; exact rfl; all_goals first | (intro _; exfalso; omega) | intro _) | (apply WO.gtr; exact rfl; exact rfl; all_goals first | (intro _; exfalso; omega) | intro _) | (apply WO.eql; exact rfl; exact rfl; all_goals first | (intro _; exfalso; omega) | intro _) | (apply WO.neq; exact rfl; exact rfl; all_goals first | (intro _; exfalso; omega) | intro _) | (apply WO.pkT; exact rfl; exact rfl) | (apply WO.pkF; exact rfl; exact rfl) | (apply WO.add; exact rfl; exact rfl; omega) | (apply WO.mul; exact rfl; exact rfl; omega) | (apply WO.quop; exact rfl; exact rfl; omega; omega; intro _ _) | (apply WO.quon; exact rfl; exact rfl; omega; omega; intro _ _) | (apply WO.quo; exact rfl; exact rfl; omega; omega) | (apply WO.cll; exact rfl; exact rfl; first | exact hs _) | (apply WD.cl0; exact rfl; exact rfl; exact rfl; first | exact hmN _ | exact hmT _ | exact hmL _ | exact hmP _) | (apply WO.seql; exact rfl; exact rfl; all_goals first | (intro h; exact absurd h (by decide)) | (intro h; exact absurd rfl h) | (intro h; contradiction) | intro _) | (apply WO.sneq; exact rfl; exact rfl; all_goals first | (intro h; exact absurd h (by decide)) | (intro h; exact absurd rfl h) | (intro h; contradiction) | intro _) | (apply WO.clb; exact rfl; exact rfl; exact rfl; all_goals first | (intro h; exact absurd h (by decide)) | intro _) | (apply WO.cll; exact rfl; exact rfl; exact rfl) | (apply WO.hlv; exact rfl; exact rfl; exact rfl) | (apply WO.hpv; exact rfl; exact rfl; exact rfl) | (apply WO.hnv; exact rfl; exact rfl; exact rfl) | (apply WO.pl; exact rfl; exact rfl) | (apply WO.pp; exact rfl; exact rfl)
      all_goals refine ⟨.inr rfl, rfl, _, rfl, ?_, rfl⟩
      all_goals simp_all [tupA, roundK, roundR, roundN, roundE, stepOf, roundV, kMost, overwrite]
      all_goals omega
    · repeat' first | apply W.seq | apply SQn | apply W.region | apply WO.nil | apply W.block | apply W.ret | apply W.exit | apply W.skip | apply SQr | apply SQe | apply BQn | apply BQr | apply BQe | (apply BQo; exact rfl) | apply LQe | apply LQr | (apply W.drawro; exact rfl) | apply W.draw | apply WD.nil | (apply WD.gT; exact rfl) | (apply WD.gF; exact rfl) | (apply WD.sT; exact rfl) | (apply WD.sF; exact rfl) | (apply WD.sU; exact rfl) | (apply WD.pure1; exact rfl) | (apply WD.load1; exact rfl; exact rfl; exact rfl) | (apply WD.store1; exact rfl; exact rfl; exact rfl) | (apply WD.new1; exact rfl) | (apply WD.clb; exact rfl; exact rfl; exact rfl; exact rfl; all_goals first | (intro h; exact absurd h (by decide)) | intro _) | (apply WD.cl0; exact rfl; exact rfl; exact rfl; exact rfl) | (apply WD.cl1; exact rfl; exact rfl; exact rfl; exact rfl) | (apply W.condT; exact rfl) | (apply W.condF; exact rfl) | (apply W.cond; exact rfl; all_goals intro _) | (apply WO.gT; exact rfl) | (apply WO.gF; exact rfl) | (apply WO.sT; exact rfl) | (apply WO.sF; exact rfl) | (apply WO.sU; exact rfl) | (apply WO.lss; exact rfl; exact rfl; all_goals first | (intro _; exfalso; omega) | intro _) | (apply WO.gtr; exact rfl; exact rfl; all_goals first | (intro _; exfalso; omega) | intro _) | (apply WO.eql; exact rfl; exact rfl; all_goals first | (intro _; exfalso; omega) | intro _) | (apply WO.neq; exact rfl; exact rfl; all_goals first | (intro _; exfalso; omega) | intro _) | (apply WO.pkT; exact rfl; exact rfl) | (apply WO.pkF; exact rfl; exact rfl) | (apply WO.add; exact rfl; exact rfl; omega) | (apply WO.mul; exact rfl; exact rfl; omega) | (apply WO.quop; exact rfl; exact rfl; omega; omega; intro _ _) | (apply WO.quon; exact rfl; exact rfl; omega; omega; intro _ _) | (apply WO.quo; exact rfl; exact rfl; omega; omega) | (apply WO.cll; exact rfl; exact rfl; first | exact hs _) | (apply WD.cl0; exact rfl; exact rfl; exact rfl; first | exact hmN _ | exact hmT _ | exact hmL _ | exact hmP _) | (apply WO.seql; exact rfl; exact rfl; all_goals first | (intro h; exact absurd h (by decide)) | (intro h; exact absurd rfl h) | (intro h; contradiction) | intro _) | (apply WO.sneq; exact rfl; exact rfl; all_goals first | (intro h; exact absurd h (by decide)) | (intro h; exact absurd rfl h) | (intro h; contradiction) | intro _) | (apply WO.clb; exact rfl; exact rfl; exact rfl; all_goals first | (intro h; exact absurd h (by decide)) | intro _) | (apply WO.cll; exact rfl; exact rfl; exact rfl) | (apply WO.hlv; exact rfl; exact rfl; exact rfl) | (apply WO.hpv; exact rfl; exact rfl; exact rfl) | (apply WO.hnv; exact rfl; exact rfl; exact rfl) | (apply WO.pl; exact rfl; exact rfl) | (apply WO.pp; exact rfl; exact rfl)
      all_goals refine ⟨.inr rfl, rfl, _, rfl, ?_, rfl⟩
      all_goals simp_all [tupA, roundK, roundR, roundN, roundE, stepOf, overwrite]
      all_goals omega
    · repeat' first | apply W.seq | apply SQn | apply W.region | apply WO.nil | apply W.block | apply W.ret | apply W.exit | apply W.skip | apply SQr | apply SQe | apply BQn | apply BQr | apply BQe | (apply BQo; exact rfl) | apply LQe | apply LQr | (apply W.drawro; exact rfl) | apply W.draw | apply WD.nil | (apply WD.gT; exact rfl) | (apply WD.gF; exact rfl) | (apply WD.sT; exact rfl) | (apply WD.sF; exact rfl) | (apply WD.sU; exact rfl) | (apply WD.pure1; exact rfl) | (apply WD.load1; exact rfl; exact rfl; exact rfl) | (apply WD.store1; exact rfl; exact rfl; exact rfl) | (apply WD.new1; exact rfl) | (apply WD.clb; exact rfl; exact rfl; exact rfl; exact rfl; all_goals first | (intro h; exact absurd h (by decide)) | intro _) | (apply WD.cl0; exact rfl; exact rfl; exact rfl; exact rfl) | (apply WD.cl1; exact rfl; exact rfl; exact rfl; exact rfl) | (apply W.condT; exact rfl) | (apply W.condF; exact rfl) | (apply W.cond; exact rfl; all_goals intro _) | (apply WO.gT; exact rfl) | (apply WO.gF; exact rfl) | (apply WO.sT; exact rfl) | (apply WO.sF; exact rfl) | (apply WO.sU; exact rfl) | (apply WO.lss; exact rfl; exact rfl; all_goals first | (intro _; exfalso; omega) | intro _) | (apply WO.gtr; exact rfl; exact rfl; all_goals first | (intro _; exfalso; omega) | intro _) | (apply WO.eql; exact rfl; exact rfl; all_goals first | (intro _; exfalso; omega) | intro _) | (apply WO.neq; exact rfl; exact rfl; all_goals first | (intro _; exfalso; omega) | intro _) | (apply WO.pkT; exact rfl; exact rfl) | (apply WO.pkF; exact rfl; exact rfl) | (apply WO.add; exact rfl; exact rfl; omega) | (apply WO.mul; exact rfl; exact rfl; omega) | (apply WO.quop; exact rfl; exact rfl; omega; omega; intro _ _) | (apply WO.quon; exact rfl; exact rfl; omega; omega; intro _ _) | (apply WO.quo; exact rfl; exact rfl; omega; omega) | (apply WO.cll; exact rfl; exact rfl; first | exact hs _) | (apply WD.cl0; exact rfl; exact rfl; exact rfl; first | exact hmN _ | exact hmT _ | exact hmL _ | exact hmP _) | (apply WO.seql; exact rfl; exact rfl; all_goals first | (intro h; exact absurd h (by decide)) | (intro h; exact absurd rfl h) | (intro h; contradiction) | intro _) | (apply WO.sneq; exact rfl; exact rfl; all_goals first | (intro h; exact absurd h (by decide)) | (intro h; exact absurd rfl h) | (intro h; contradiction) | intro _) | (apply WO.clb; exact rfl; exact rfl; exact rfl; all_goals first | (intro h; exact absurd h (by decide)) | intro _) | (apply WO.cll; exact rfl; exact rfl; exact rfl) | (apply WO.hlv; exact rfl; exact rfl; exact rfl) | (apply WO.hpv; exact rfl; exact rfl; exact rfl) | (apply WO.hnv; exact rfl; exact rfl; exact rfl) | (apply WO.pl; exact rfl; exact rfl) | (apply WO.pp; exact rfl; exact rfl)
      all_goals refine ⟨.inr rfl, rfl, _, rfl, ?_, rfl⟩
      all_goals simp_all [tupA, roundK, roundR, roundN, roundE, stepOf, overwrite]
      all_goals omega
  · have hs : ∀ h, (mk0 TRefRound inv F).ext 69 [.str sTenths] h = some ⟨.tup [.int .i64 1000, .str sTime], h, []⟩ := fun _ => rfl
    rcases chk_zero he with ⟨rfl, hr, rfl⟩ | ⟨hk, rfl | rfl | rfl, rfl, hl, hm⟩
    all_goals try simp only [kLeast, kMost] at hl hm
    all_goals try simp (decide := true) at hl hm
    · repeat' first | apply W.seq | apply SQn | apply W.region | apply WO.nil | apply W.block | apply W.ret | apply W.exit | apply W.skip | apply SQr | apply SQe | apply BQn | apply BQr | apply BQe | (apply BQo; exact rfl) | apply LQe | apply LQr | (apply W.drawro; exact rfl) | apply W.draw | apply WD.nil | (apply WD.gT; exact rfl) | (apply WD.gF; exact rfl) | (apply WD.sT; exact rfl) | (apply WD.sF; exact rfl) | (apply WD.sU; exact rfl) | (apply WD.pure1; exact rfl) | (apply WD.load1; exact rfl; exact rfl; exact rfl) | (apply WD.store1; exact rfl; exact rfl; exact rfl) | (apply WD.new1; exact rfl) | (apply WD.clb; exact rfl; exact rfl; exact rfl; exact rfl; all_goals first | (intro h; exact absurd h (by decide)) | intro _) | (apply WD.cl0; exact rfl; exact rfl; exact rfl; exact rfl) | (apply WD.cl1; exact rfl; exact rfl; exact rfl; exact rfl) | (apply W.condT; exact rfl) | (apply W.condF; exact rfl) | (apply W.cond; exact rfl; all_goals intro _) | (apply WO.gT; exact rfl) | (apply WO.gF; exact rfl) | (apply WO.sT; exact rfl) | (apply WO.sF; exact rfl) | (apply WO.sU; exact rfl) | (apply WO.lss; exact rfl; exact rfl; all_goals first | (intro _; exfalso; omega) | intro _) | (apply WO.gtr; exact rfl; exact rfl; all_goals first | (intro _; exfalso; omega) | intro _) | (apply WO.eql; exact rfl; exact rfl; all_goals first | (intro _; exfalso; omega) | intro _) | (apply WO.neq; exact rfl; exact rfl; all_goals first | (intro _; exfalso; omega) | intro _) | (apply WO.pkT; exact rfl; exact rfl) | (apply WO.pkF; exact rfl; exact rfl) | (apply WO.add; exact rfl; exact rfl; omega) | (apply WO.mul; exact rfl; exact rfl; omega) | (apply WO.quop; exact rfl; exact rfl; omega; omega; intro _ _) | (apply WO.quon; exact rfl; exact rfl; omega; omega; intro _ _) | (apply WO.quo; exact rfl; exact rfl; omega; omega) | (apply WO.cll; exact rfl; exact rfl; first | exact hs _) | (apply WD.cl0; exact rfl; exact rfl; exact rfl; first | exact hmN _ | exact hmT _ | exact hmL _ | exact hmP _) | (apply WO.seql; exact rfl; exact rfl; all_goals first | (intro h; exact absurd h (by decide)) | (intro h; exact absurd rfl h) | (intro h; contradiction) | intro _) | (apply WO.sneq; exact rfl; exact rfl; all_goals first | (intro h; exact absurd h (by decide)) | (intro h; exact absurd rfl h) | (intro h; contradiction) | intro _) | (apply WO.clb; exact rfl; exact rfl; exact rfl; all_goals first | (intro h; exact absurd h (by decide)) | intro _) | (apply WO.cll; exact rfl; exact rfl; exact rfl) | (apply WO.hlv; exact rfl; exact rfl; exact rfl) | (apply WO.hpv; exact rfl; exact rfl; exact rfl) | (apply WO.hnv; exact rfl; exact rfl; exact rfl) | (apply WO.pl; exact rfl; exact rfl) | (apply WO.pp; exact rfl; exact rfl)
      all_goals refine ⟨.inr rfl, rfl, _, rfl, ?_, rfl⟩
      all_goals simp_all [tupA, roundK, roundR, roundN, roundE, kMost, overwrite, isClass]
      all_goals omega
    · repeat' first | apply W.seq | apply SQn | apply W.region | apply WO.nil | apply W.block | apply W.ret | apply W.exit | apply W.skip | apply SQr | apply SQe | apply BQn | apply BQr | apply BQe | (apply BQo; exact rfl) | apply LQe | apply LQr | (apply W.drawro; exact rfl) | apply W.draw | apply WD.nil | (apply WD.gT; exact rfl) | (apply WD.gF; exact rfl) | (apply WD.sT; exact rfl) | (apply WD.sF; exact rfl) | (apply WD.sU; exact rfl) | (apply WD.pure1; exact rfl) | (apply WD.load1; exact rfl; exact rfl; exact rfl) | (apply WD.store1; exact rfl; exact rfl; exact rfl) | (apply WD.new1; exact rfl) | (apply WD.clb; exact rfl; exact rfl; exact rfl; exact rfl; all_goals first | (intro h; exact absurd h (by decide)) | intro _) | (apply WD.cl0; exact rfl; exact rfl; exact rfl; exact rfl) | (apply WD.cl1; exact rfl; exact rfl; exact rfl; exact rfl) | (apply W.condT; exact rfl) | (apply W.condF; exact rfl) | (apply W.cond; exact rfl; all_goals intro _) | (apply WO.gT; exact rfl) | (apply WO.gF; exact rfl) | (apply WO.sT; exact rfl) | (apply WO.sF; exact rfl) | (apply WO.sU; exact rfl) | (apply WO.lss; exact rfl; exact rfl; all_goals first | (intro _; exfalso; omega) | intro _) | (apply WO.gtr; exact rfl; exact rfl; all_goals first | (intro _; exfalso; omega) | intro _) | (apply WO.eql; exact rfl; exact rfl; all_goals first | (intro _; exfalso; omega) | intro _) | (apply WO.neq; exact rfl; exact rfl; all_goals first | (intro _; exfalso; omega) | intro _) | (apply WO.pkT; exact rfl; exact rfl) | (apply WO.pkF; exact rfl; exact rfl) | (apply WO.add; exact rfl; exact rfl; omega) | (apply WO.mul; exact rfl; exact rfl; omega) | (apply WO.quop; exact rfl; exact rfl; omega; omega; intro _ _) | (apply WO.quon; exact rfl; exact rfl; omega; omega; intro _ _) | (apply WO.quo; exact rfl; exact rfl; omega; omega) | (apply WO.cll; exact rfl; exact rfl; first | exact hs _) | (apply WD.cl0; exact rfl; exact rfl; exact rfl; first | exact hmN _ | exact hmT _ | exact hmL _ | exact hmP _) | (apply WO.seql; exact rfl; exact rfl; all_goals first | (intro h; exact absurd h (by decide)) | (intro h; exact absurd rfl h) | (intro h; contradiction) | intro _) | (apply WO.sneq; exact rfl; exact rfl; all_goals first | (intro h; exact absurd h (by decide)) | (intro h; exact absurd rfl h) | (intro h; contradiction) | intro _) | (apply WO.clb; exact rfl; exact rfl; exact rfl; all_goals first | (intro h; exact absurd h (by decide)) | intro _) | (apply WO.cll; exact rfl; exact rfl; exact rfl) | (apply WO.hlv; exact rfl; exact rfl; exact rfl) | (apply WO.hpv; exact rfl; exact rfl; exact rfl) | (apply WO.hnv; exact rfl; exact rfl; exact rfl) | (apply WO.pl; exact rfl; exact rfl) | (apply WO.pp; exact rfl; exact rfl)
      all_goals refine ⟨.inr rfl, rfl, _, rfl, ?_, rfl⟩
      all_goals simp_all [tupA, roundK, roundR, roundN, roundE, stepOf, roundV, kMost, overwrite]
      all_goals omega
    · repeat' first | apply W.seq | apply SQn | apply W.region | apply WO.nil | apply W.block | apply W.ret | apply W.exit | apply W.skip | apply SQr | apply SQe | apply BQn | apply BQr | apply BQe | (apply BQo; exact rfl) | apply LQe | apply LQr | (apply W.drawro; exact rfl) | apply W.draw | apply WD.nil | (apply WD.gT; exact rfl) | (apply WD.gF; exact rfl) | (apply WD.sT; exact rfl) | (apply WD.sF; exact rfl) | (apply WD.sU; exact rfl) | (apply WD.pure1; exact rfl) | (apply WD.load1; exact rfl; exact rfl; exact rfl) | (apply WD.store1; exact rfl; exact rfl; exact rfl) | (apply WD.new1; exact rfl) | (apply WD.clb; exact rfl; exact rfl; exact rfl; exact rfl; all_goals first | (intro h; exact absurd h (by decide)) | intro _) | (apply WD.cl0; exact rfl; exact rfl; exact rfl; exact rfl) | (apply WD.cl1; exact rfl; exact rfl; exact rfl; exact rfl) | (apply W.condT; exact rfl) | (apply W.condF; exact rfl) | (apply W.cond; exact rfl; all_goals intro _) | (apply WO.gT; exact rfl) | (apply WO.gF; exact rfl) | (apply WO.sT; exact rfl) | (apply WO.sF; exact rfl) | (apply WO.sU; exact rfl) | (apply WO.lss; exact rfl; exact rfl; all_goals first | (intro _; exfalso; omega) | intro _) | (apply WO.gtr; exact rfl; exact rfl; all_goals first | (intro _; exfalso; omega) | intro _) | (apply WO.eql; exact rfl; exact rfl; all_goals first | (intro _; exfalso; omega) | intro _) | (apply WO.neq; exact rfl; exact rfl; all_goals first | (intro _; exfalso; omega) | intro _) | (apply WO.pkT; exact rfl; exact rfl) | (apply WO.pkF; exact rfl; exact rfl) | (apply WO.add; exact rfl; exact rfl; omega) | (apply WO.mul; exact rfl; exact rfl; omega) | (apply WO.quop; exact rfl; exact rfl; omega; omega; intro _ _) | (apply WO.quon; exact rfl; exact rfl; omega; omega; intro _ _) | (apply WO.quo; exact rfl; exact rfl; omega; omega) | (apply WO.cll; exact rfl; exact rfl; first | exact hs _) | (apply WD.cl0; exact rfl; exact rfl; exact rfl; first | exact hmN _ | exact hmT _ | exact hmL _ | exact hmP _) | (apply WO.seql; exact rfl; exact rfl; all_goals first | (intro h; exact absurd h (by decide)) | (intro h; exact absurd rfl h) | (intro h; contradiction) | intro _) | (apply WO.sneq; exact rfl; exact rfl; all_goals first | (intro h; exact absurd h (by decide)) | (intro h; exact absurd rfl h) | (intro h; contradiction) | intro _) | (apply WO.clb; exact rfl; exact rfl; exact rfl; all_goals first | (intro h; exact absurd h (by decide)) | intro _) | (apply WO.cll; exact rfl; exact rfl; exact rfl) | (apply WO.hlv; exact rfl; exact rfl; exact rfl) | (apply WO.hpv; exact rfl; exact rfl; exact rfl) | (apply WO.hnv; exact rfl; exact rfl; exact rfl) | (apply WO.pl; exact rfl; exact rfl) | (apply WO.pp; exact rfl; exact rfl)
      all_goals refine ⟨.inr rfl, rfl, _, rfl, ?_, rfl⟩
      all_goals simp_all [tupA, roundK, roundR, roundN, roundE, stepOf, overwrite]
      all_goals omega
    · repeat' first | apply W.seq | apply SQn | apply W.region | apply WO.nil | apply W.block | apply W.ret | apply W.exit | apply W.skip | apply SQr | apply SQe | apply BQn | apply BQr | apply BQe | (apply BQo; exact rfl) | apply LQe | apply LQr | (apply W.drawro; exact rfl) | apply W.draw | apply WD.nil | (apply WD.gT; exact rfl) | (apply WD.gF; exact rfl) | (apply WD.sT; exact rfl) | (apply WD.sF; exact rfl) | (apply WD.sU; exact rfl) | (apply WD.pure1; exact rfl) | (apply WD.load1; exact rfl; exact rfl; exact rfl) | (apply WD.store1; exact rfl; exact rfl; exact rfl) | (apply WD.new1; exact rfl) | (apply WD.clb; exact rfl; exact rfl; exact rfl; exact rfl; all_goals first | (intro h; exact absurd h (by decide)) | intro _) | (apply WD.cl0; exact rfl; exact rfl; exact rfl; exact rfl) | (apply WD.cl1; exact rfl; exact rfl; exact rfl; exact rfl) | (apply W.condT; exact rfl) | (apply W.condF; exact rfl) | (apply W.cond; exact rfl; all_goals intro _) | (apply WO.gT; exact rfl) | (apply WO.gF; exact rfl) | (apply WO.sT; exact rfl) | (apply WO.sF; exact rfl) | (apply WO.sU; exact rfl) | (apply WO.lss; exact rfl; exact rfl; all_goals first | (intro _; exfalso; omega) | intro _) | (apply WO.gtr; exact rfl; exact rfl; all_goals first | (intro _; exfalso; omega) | intro _) | (apply WO.eql; exact rfl; exact rfl; all_goals first | (intro _; exfalso; omega) | intro _) | (apply WO.neq; exact rfl; exact rfl; all_goals first | (intro _; exfalso; omega) | intro _) | (apply WO.pkT; exact rfl; exact rfl) | (apply WO.pkF; exact rfl; exact rfl) | (apply WO.add; exact rfl; exact rfl; omega) | (apply WO.mul; exact rfl; exact rfl; omega) | (apply WO.quop; exact rfl; exact rfl; omega; omega; intro _ _) | (apply WO.quon; exact rfl; exact rfl; omega; omega; intro _ _) | (apply WO.quo; exact rfl; exact rfl; omega; omega) | (apply WO.cll; exact rfl; exact rfl; first | exact hs _) | (apply WD.cl0; exact rfl; exact rfl; exact rfl; first | exact hmN _ | exact hmT _ | exact hmL _ | exact hmP _) | (apply WO.seql; exact rfl; exact rfl; all_goals first | (intro h; exact absurd h (by decide)) | (intro h; exact absurd rfl h) | (intro h; contradiction) | intro _) | (apply WO.sneq; exact rfl; exact rfl; all_goals first | (intro h; exact absurd h (by decide)) | (intro h; exact absurd rfl h) | (intro h; contradiction) | intro _) | (apply WO.clb; exact rfl; exact rfl; exact rfl; all_goals first | (intro h; exact absurd h (by decide)) | intro _) | (apply WO.cll; exact rfl; exact rfl; exact rfl) | (apply WO.hlv; exact rfl; exact rfl; exact rfl) | (apply WO.hpv; exact rfl; exact rfl; exact rfl) | (apply WO.hnv; exact rfl; exact rfl; exact rfl) | (apply WO.pl; exact rfl; exact rfl) | (apply WO.pp; exact rfl; exact rfl)
      all_goals refine ⟨.inr rfl, rfl, _, rfl, ?_, rfl⟩
      all_goals simp_all [tupA, roundK, roundR, roundN, roundE, stepOf, overwrite]
      all_goals omega
  · have hs : ∀ h, (mk0 TRefRound inv F).ext 69 [.str sCent] h = some ⟨.tup [.int .i64 10, .str sLength], h, []⟩ := fun _ => rfl
    rcases chk_zero he with ⟨rfl, hr, rfl⟩ | ⟨hk, rfl | rfl | rfl, rfl, hl, hm⟩
    all_goals try simp only [kLeast, kMost] at hl hm
    all_goals try simp (decide := true) at hl hm
    · repeat' first | apply W.seq | apply SQn | apply W.region | apply WO.nil | apply W.block | apply W.ret | apply W.exit | apply W.skip | apply SQr | apply SQe | apply BQn | apply BQr | apply BQe | (apply BQo; exact rfl) | apply LQe | apply LQr | (apply W.drawro; exact rfl) | apply W.draw | apply WD.nil | (apply WD.gT; exact rfl) | (apply WD.gF; exact rfl) | (apply WD.sT; exact rfl) | (apply WD.sF; exact rfl) | (apply WD.sU; exact rfl) | (apply WD.pure1; exact rfl) | (apply WD.load1; exact rfl; exact rfl; exact rfl) | (apply WD.store1; exact rfl; exact rfl; exact rfl) | (apply WD.new1; exact rfl) | (apply WD.clb; exact rfl; exact rfl; exact rfl; exact rfl; all_goals first | (intro h; exact absurd h (by decide)) | intro _) | (apply WD.cl0; exact rfl; exact rfl; exact rfl; exact rfl) | (apply WD.cl1; exact rfl; exact rfl; exact rfl; exact rfl) | (apply W.condT; exact rfl) | (apply W.condF; exact rfl) | (apply W.cond; exact rfl; all_goals intro _) | (apply WO.gT; exact rfl) | (apply WO.gF; exact rfl) | (apply WO.sT; exact rfl) | (apply WO.sF; exact rfl) | (apply WO.sU; exact rfl) | (apply WO.lss; exact rfl; exact rfl; all_goals first | (intro _; exfalso; omega) | intro _) | (apply WO.gtr; exact rfl; exact rfl; all_goals first | (intro _; exfalso; omega) | intro _) | (apply WO.eql; exact rfl; exact rfl; all_goals first | (intro _; exfalso; omega) | intro _) | (apply WO.neq; exact rfl; exact rfl; all_goals first | (intro _; exfalso; omega) | intro _) | (apply WO.pkT; exact rfl; exact rfl) | (apply WO.pkF; exact rfl; exact rfl) | (apply WO.add; exact rfl; exact rfl; omega) | (apply WO.mul; exact rfl; exact rfl; omega) | (apply WO.quop; exact rfl; exact rfl; omega; omega; intro _ _) | (apply WO.quon; exact rfl; exact rfl; omega; omega; intro _ _) | (apply WO.quo; exact rfl; exact rfl; omega; omega) | (apply WO.cll; exact rfl; exact rfl; first | exact hs _) | (apply WD.cl0; exact rfl; exact rfl; exact rfl; first | exact hmN _ | exact hmT _ | exact hmL _ | exact hmP _) | (apply WO.seql; exact rfl; exact rfl; all_goals first | (intro h; exact absurd h (by decide)) | (intro h; exact absurd rfl h) | (intro h; contradiction) | intro _) | (apply WO.sneq; exact rfl; exact rfl; all_goals first | (intro h; exact absurd h (by decide)) | (intro h; exact absurd rfl h) | (intro h; contradiction) | intro _) | (apply WO.clb; exact rfl; exact rfl; exact rfl; all_goals first | (intro h; exact absurd h (by decide)) | intro _) | (apply WO.cll; exact rfl; exact rfl; exact rfl) | (apply WO.hlv; exact rfl; exact rfl; exact rfl) | (apply WO.hpv; exact rfl; exact rfl; exact rfl) | (apply WO.hnv; exact rfl; exact rfl; exact rfl) | (apply WO.pl; exact rfl; exact rfl) | (apply WO.pp; exact rfl; exact rfl)
      all_goals refine ⟨.inr rfl, rfl, _, rfl, ?_, rfl⟩
      all_goals simp_all [tupA, roundK, roundR, roundN, roundE, kMost, overwrite, isClass]
      all_goals omega
    · repeat' first | apply W.seq | apply SQn | apply W.region | apply WO.nil | apply W.block | apply W.ret | apply W.exit | apply W.skip | apply SQr | apply SQe | apply BQn | apply BQr | apply BQe | (apply BQo; exact rfl) | apply LQe | apply LQr | (apply W.drawro; exact rfl) | apply W.draw | apply WD.nil | (apply WD.gT; exact rfl) | (apply WD.gF; exact rfl) | (apply WD.sT; exact rfl) | (apply WD.sF; exact rfl) | (apply WD.sU; exact rfl) | (apply WD.pure1; exact rfl) | (apply WD.load1; exact rfl; exact rfl; exact rfl) | (apply WD.store1; exact rfl; exact rfl; exact rfl) | (apply WD.new1; exact rfl) | (apply WD.clb; exact rfl; exact rfl; exact rfl; exact rfl; all_goals first | (intro h; exact absurd h (by decide)) | intro _) | (apply WD.cl0; exact rfl; exact rfl; exact rfl; exact rfl) | (apply WD.cl1; exact rfl; exact rfl; exact rfl; exact rfl) | (apply W.condT; exact rfl) | (apply W.condF; exact rfl) | (apply W.cond; exact rfl; all_goals intro _) | (apply WO.gT; exact rfl) | (apply WO.gF; exact rfl) | (apply WO.sT; exact rfl) | (apply WO.sF; exact rfl) | (apply WO.sU; exact rfl) | (apply WO.lss; exact rfl; exact rfl; all_goals first | (intro _; exfalso; omega) | intro _) | (apply WO.gtr; exact rfl; exact rfl; all_goals first | (intro _; exfalso; omega) | intro _) | (apply WO.eql; exact rfl; exact rfl; all_goals first | (intro _; exfalso; omega) | intro _) | (apply WO.neq; exact rfl; exact rfl; all_goals first | (intro _; exfalso; omega) | intro _) | (apply WO.pkT; exact rfl; exact rfl) | (apply WO.pkF; exact rfl; exact rfl) | (apply WO.add; exact rfl; exact rfl; omega) | (apply WO.mul; exact rfl; exact rfl; omega) | (apply WO.quop; exact rfl; exact rfl; omega; omega; intro _ _) | (apply WO.quon; exact rfl; exact rfl; omega; omega; intro _ _) | (apply WO.quo; exact rfl; exact rfl; omega; omega) | (apply WO.cll; exact rfl; exact rfl; first | exact hs _) | (apply WD.cl0; exact rfl; exact rfl; exact rfl; first | exact hmN _ | exact hmT _ | exact hmL _ | exact hmP _) | (apply WO.seql; exact rfl; exact rfl; all_goals first | (intro h; exact absurd h (by decide)) | (intro h; exact absurd rfl h) | (intro h; contradiction) | intro _) | (apply WO.sneq; exact rfl; exact rfl; all_goals first | (intro h; exact absurd h (by decide)) | (intro h; exact absurd rfl h) | (intro h; contradiction) | intro _) | (apply WO.clb; exact rfl; exact rfl; exact rfl; all_goals first | (intro h; exact absurd h (by decide)) | intro _) | (apply WO.cll; exact rfl; exact rfl; exact rfl) | (apply WO.hlv; exact rfl; exact rfl; exact rfl) | (apply WO.hpv; exact rfl; exact rfl; exact rfl) | (apply WO.hnv; exact rfl; exact rfl; exact rfl) | (apply WO.pl; exact rfl; exact rfl) | (apply WO.pp; exact rfl; exact rfl)
      all_goals refine ⟨.inr rfl, rfl, _, rfl, ?_, rfl⟩
      all_goals simp_all [tupA, roundK, roundR, roundN, roundE, stepOf, overwrite]
      all_goals omega
    · repeat' first | apply W.seq | apply SQn | apply W.region | apply WO.nil | apply W.block | apply W.ret | apply W.exit | apply W.skip | apply SQr | apply SQe | apply BQn | apply BQr | apply BQe | (apply BQo; exact rfl) | apply LQe | apply LQr | (apply W.drawro; exact rfl) | apply W.draw | apply WD.nil | (apply WD.gT; exact rfl) | (apply WD.gF; exact rfl) | (apply WD.sT; exact rfl) | (apply WD.sF; exact rfl) | (apply WD.sU; exact rfl) | (apply WD.pure1; exact rfl) | (apply WD.load1; exact rfl; exact rfl; exact rfl) | (apply WD.store1; exact rfl; exact rfl; exact rfl) | (apply WD.new1; exact rfl) | (apply WD.clb; exact rfl; exact rfl; exact rfl; exact rfl; all_goals first | (intro h; exact absurd h (by decide)) | intro _) | (apply WD.cl0; exact rfl; exact rfl; exact rfl; exact rfl) | (apply WD.cl1; exact rfl; exact rfl; exact rfl; exact rfl) | (apply W.condT; exact rfl) | (apply W.condF; exact rfl) | (apply W.cond; exact rfl; all_goals intro _) | (apply WO.gT; exact rfl) | (apply WO.gF; exact rfl) | (apply WO.sT; exact rfl) | (apply WO.sF; exact rfl) | (apply WO.sU; exact rfl) | (apply WO.lss; exact rfl; exact rfl; all_goals first | (intro _; exfalso; omega) | intro _) | (apply WO.gtr; exact rfl; exact rfl; all_goals first | (intro _; exfalso; omega) | intro _) | (apply WO.eql; exact rfl; exact rfl; all_goals first | (intro _; exfalso; omega) | intro _) | (apply WO.neq; exact rfl; exact rfl; all_goals first | (intro _; exfalso; omega) | intro _) | (apply WO.pkT; exact rfl; exact rfl) | (apply WO.pkF; exact rfl; exact rfl) | (apply WO.add; exact rfl; exact rfl; omega) | (apply WO.mul; exact rfl; exact rfl; omega) | (apply WO.quop; exact rfl; exact rfl; omega; omega; intro _ _) | (apply WO.quon; exact rfl; exact rfl; omega; omega; intro _ _) | (apply WO.quo; exact rfl; exact rfl; omega; omega) | (apply WO.cll; exact rfl; exact rfl; first | exact hs _) | (apply WD.cl0; exact rfl; exact rfl; exact rfl; first | exact hmN _ | exact hmT _ | exact hmL _ | exact hmP _) | (apply WO.seql; exact rfl; exact rfl; all_goals first | (intro h; exact absurd h (by decide)) | (intro h; exact absurd rfl h) | (intro h; contradiction) | intro _) | (apply WO.sneq; exact rfl; exact rfl; all_goals first | (intro h; exact absurd h (by decide)) | (intro h; exact absurd rfl h) | (intro h; contradiction) | intro _) | (apply WO.clb; exact rfl; exact rfl; exact rfl; all_goals first | (intro h; exact absurd h (by decide)) | intro _) | (apply WO.cll; exact rfl; exact rfl; exact rfl) | (apply WO.hlv; exact rfl; exact rfl; exact rfl) | (apply WO.hpv; exact rfl; exact rfl; exact rfl) | (apply WO.hnv; exact rfl; exact rfl; exact rfl) | (apply WO.pl; exact rfl; exact rfl) | (apply WO.pp; exact rfl; exact rfl)
      all_goals refine ⟨.inr rfl, rfl, _, rfl, ?_, rfl⟩
      all_goals simp_all [tupA, roundK, roundR, roundN, roundE, stepOf, roundV, kMost, overwrite]
      all_goals omega
    · repeat' first | apply W.seq | apply SQn | apply W.region | apply WO.nil | apply W.block | apply W.ret | apply W.exit | apply W.skip | apply SQr | apply SQe | apply BQn | apply BQr | apply BQe | (apply BQo; exact rfl) | apply LQe | apply LQr | (apply W.drawro; exact rfl) | apply W.draw | apply WD.nil | (apply WD.gT; exact rfl) | (apply WD.gF; exact rfl) | (apply WD.sT; exact rfl) | (apply WD.sF; exact rfl) | (apply WD.sU; exact rfl) | (apply WD.pure1; exact rfl) | (apply WD.load1; exact rfl; exact rfl; exact rfl) | (apply WD.store1; exact rfl; exact rfl; exact rfl) | (apply WD.new1; exact rfl) | (apply WD.clb; exact rfl; exact rfl; exact rfl; exact rfl; all_goals first | (intro h; exact absurd h (by decide)) | intro _) | (apply WD.cl0; exact rfl; exact rfl; exact rfl; exact rfl) | (apply WD.cl1; exact rfl; exact rfl; exact rfl; exact rfl) | (apply W.condT; exact rfl) | (apply W.condF; exact rfl) | (apply W.cond; exact rfl; all_goals intro _) | (apply WO.gT; exact rfl) | (apply WO.gF; exact rfl) | (apply WO.sT; exact rfl) | (apply WO.sF; exact rfl) | (apply WO.sU; exact rfl) | (apply WO.lss; exact rfl; exact rfl; all_goals first | (intro _; exfalso; omega) | intro _) | (apply WO.gtr; exact rfl; exact rfl; all_goals first | (intro _; exfalso; omega) | intro _) | (apply WO.eql; exact rfl; exact rfl; all_goals first | (intro _; exfalso; omega) | intro _) | (apply WO.neq; exact rfl; exact rfl; all_goals first | (intro _; exfalso; omega) | intro _) | (apply WO.pkT; exact rfl; exact rfl) | (apply WO.pkF; exact rfl; exact rfl) | (apply WO.add; exact rfl; exact rfl; omega) | (apply WO.mul; exact rfl; exact rfl; omega) | (apply WO.quop; exact rfl; exact rfl; omega; omega; intro _ _) | (apply WO.quon; exact rfl; exact rfl; omega; omega; intro _ _) | (apply WO.quo; exact rfl; exact rfl; omega; omega) | (apply WO.cll; exact rfl; exact rfl; first | exact hs _) | (apply WD.cl0; exact rfl; exact rfl; exact rfl; first | exact hmN _ | exact hmT _ | exact hmL _ | exact hmP _) | (apply WO.seql; exact rfl; exact rfl; all_goals first | (intro h; exact absurd h (by decide)) | (intro h; exact absurd rfl h) | (intro h; contradiction) | intro _) | (apply WO.sneq; exact rfl; exact rfl; all_goals first | (intro h; exact absurd h (by decide)) | (intro h; exact absurd rfl h) | (intro h; contradiction) | intro _) | (apply WO.clb; exact rfl; exact rfl; exact rfl; all_goals first | (intro h; exact absurd h (by decide)) | intro _) | (apply WO.cll; exact rfl; exact rfl; exact rfl) | (apply WO.hlv; exact rfl; exact rfl; exact rfl) | (apply WO.hpv; exact rfl; exact rfl; exact rfl) | (apply WO.hnv; exact rfl; exact rfl; exact rfl) | (apply WO.pl; exact rfl; exact rfl) | (apply WO.pp; exact rfl; exact rfl)
      all_goals refine ⟨.inr rfl, rfl, _, rfl, ?_, rfl⟩
      all_goals simp_all [tupA, roundK, roundR, roundN, roundE, stepOf, overwrite]
      all_goals omega
  · have hs : ∀ h, (mk0 TRefRound inv F).ext 69 [.str c] h = some ⟨.tup [.int .i64 0, .str []], h, []⟩ := fun _ => by show extS _ _ _ _ = _; simp only [TRefRound, ext_hd, specStep, stepS, stepK, if_neg c1, if_neg c2, if_neg c3, if_neg c4]
    rcases chk_zero he with ⟨rfl, hr, rfl⟩ | ⟨hk, rfl | rfl | rfl, rfl, hl, hm⟩
    all_goals try simp only [kLeast, kMost] at hl hm
    all_goals try simp (decide := true) at hl hm
    · repeat' first | apply W.seq | apply SQn | apply W.region | apply WO.nil | apply W.block | apply W.ret | apply W.exit | apply W.skip | apply SQr | apply SQe | apply BQn | apply BQr | apply BQe | (apply BQo; exact rfl) | apply LQe | apply LQr | (apply W.drawro; exact rfl) | apply W.draw | apply WD.nil | (apply WD.gT; exact rfl) | (apply WD.gF; exact rfl) | (apply WD.sT; exact rfl) | (apply WD.sF; exact rfl) | (apply WD.sU; exact rfl) | (apply WD.pure1; exact rfl) | (apply WD.load1; exact rfl; exact rfl; exact rfl) | (apply WD.store1; exact rfl; exact rfl; exact rfl) | (apply WD.new1; exact rfl) | (apply WD.clb; exact rfl; exact rfl; exact rfl; exact rfl; all_goals first | (intro h; exact absurd h (by decide)) | intro _) | (apply WD.cl0; exact rfl; exact rfl; exact rfl; exact rfl) | (apply WD.cl1; exact rfl; exact rfl; exact rfl; exact rfl) | (apply W.condT; exact rfl) | (apply W.condF; exact rfl) | (apply W.cond; exact rfl; all_goals intro _) | (apply WO.gT; exact rfl) | (apply WO.gF; exact rfl) | (apply WO.sT; exact rfl) | (apply WO.sF; exact rfl) | (apply WO.sU; exact rfl) | (apply WO.lss; exact rfl; exact rfl; all_goals first | (intro _; exfalso; omega) | intro _) | (apply WO.gtr; exact rfl; exact rfl; all_goals first | (intro _; exfalso; omega) | intro _) | (apply WO.eql; exact rfl; exact rfl; all_goals first | (intro _; exfalso; omega) | intro _) | (apply WO.neq; exact rfl; exact rfl; all_goals first | (intro _; exfalso; omega) | intro _) | (apply WO.pkT; exact rfl; exact rfl) | (apply WO.pkF; exact rfl; exact rfl) | (apply WO.add; exact rfl; exact rfl; omega) | (apply WO.mul; exact rfl; exact rfl; omega) | (apply WO.quop; exact rfl; exact rfl; omega; omega; intro _ _) | (apply WO.quon; exact rfl; exact rfl; omega; omega; intro _ _) | (apply WO.quo; exact rfl; exact rfl; omega; omega) | (apply WO.cll; exact rfl; exact rfl; first | exact hs _) | (apply WD.cl0; exact rfl; exact rfl; exact rfl; first | exact hmN _ | exact hmT _ | exact hmL _ | exact hmP _) | (apply WO.seql; exact rfl; exact rfl; all_goals first | (intro h; exact absurd h (by decide)) | (intro h; exact absurd rfl h) | (intro h; contradiction) | intro _) | (apply WO.sneq; exact rfl; exact rfl; all_goals first | (intro h; exact absurd h (by decide)) | (intro h; exact absurd rfl h) | (intro h; contradiction) | intro _) | (apply WO.clb; exact rfl; exact rfl; exact rfl; all_goals first | (intro h; exact absurd h (by decide)) | intro _) | (apply WO.cll; exact rfl; exact rfl; exact rfl) | (apply WO.hlv; exact rfl; exact rfl; exact rfl) | (apply WO.hpv; exact rfl; exact rfl; exact rfl) | (apply WO.hnv; exact rfl; exact rfl; exact rfl) | (apply WO.pl; exact rfl; exact rfl) | (apply WO.pp; exact rfl; exact rfl)
      all_goals refine ⟨.inr rfl, rfl, _, rfl, ?_, rfl⟩
      all_goals simp_all [tupA, roundK, roundR, roundN, roundE, overwrite, isClass]
      all_goals omega
    · repeat' first | apply W.seq | apply SQn | apply W.region | apply WO.nil | apply W.block | apply W.ret | apply W.exit | apply W.skip | apply SQr | apply SQe | apply BQn | apply BQr | apply BQe | (apply BQo; exact rfl) | apply LQe | apply LQr | (apply W.drawro; exact rfl) | apply W.draw | apply WD.nil | (apply WD.gT; exact rfl) | (apply WD.gF; exact rfl) | (apply WD.sT; exact rfl) | (apply WD.sF; exact rfl) | (apply WD.sU; exact rfl) | (apply WD.pure1; exact rfl) | (apply WD.load1; exact rfl; exact rfl; exact rfl) | (apply WD.store1; exact rfl; exact rfl; exact rfl) | (apply WD.new1; exact rfl) | (apply WD.clb; exact rfl; exact rfl; exact rfl; exact rfl; all_goals first | (intro h; exact absurd h (by decide)) | intro _) | (apply WD.cl0; exact rfl; exact rfl; exact rfl; exact rfl) | (apply WD.cl1; exact rfl; exact rfl; exact rfl; exact rfl) | (apply W.condT; exact rfl) | (apply W.condF; exact rfl) | (apply W.cond; exact rfl; all_goals intro _) | (apply WO.gT; exact rfl) | (apply WO.gF; exact rfl) | (apply WO.sT; exact rfl) | (apply WO.sF; exact rfl) | (apply WO.sU; exact rfl) | (apply WO.lss; exact rfl; exact rfl; all_goals first | (intro _; exfalso; omega) | intro _) | (apply WO.gtr; exact rfl; exact rfl; all_goals first | (intro _; exfalso; omega) | intro _) | (apply WO.eql; exact rfl; exact rfl; all_goals first | (intro _; exfalso; omega) | intro _) | (apply WO.neq; exact rfl; exact rfl; all_goals first | (intro _; exfalso; omega) | intro _) | (apply WO.pkT; exact rfl; exact rfl) | (apply WO.pkF; exact rfl; exact rfl) | (apply WO.add; exact rfl; exact rfl; omega) | (apply WO.mul; exact rfl; exact rfl; omega) | (apply WO.quop; exact rfl; exact rfl; omega; omega; intro _ _) | (apply WO.quon; exact rfl; exact rfl; omega; omega; intro _ _) | (apply WO.quo; exact rfl; exact rfl; omega; omega) | (apply WO.cll; exact rfl; exact rfl; first | exact hs _) | (apply WD.cl0; exact rfl; exact rfl; exact rfl; first | exact hmN _ | exact hmT _ | exact hmL _ | exact hmP _) | (apply WO.seql; exact rfl; exact rfl; all_goals first | (intro h; exact absurd h (by decide)) | (intro h; exact absurd rfl h) | (intro h; contradiction) | intro _) | (apply WO.sneq; exact rfl; exact rfl; all_goals first | (intro h; exact absurd h (by decide)) | (intro h; exact absurd rfl h) | (intro h; contradiction) | intro _) | (apply WO.clb; exact rfl; exact rfl; exact rfl; all_goals first | (intro h; exact absurd h (by decide)) | intro _) | (apply WO.cll; exact rfl; exact rfl; exact rfl) | (apply WO.hlv; exact rfl; exact rfl; exact rfl) | (apply WO.hpv; exact rfl; exact rfl; exact rfl) | (apply WO.hnv; exact rfl; exact rfl; exact rfl) | (apply WO.pl; exact rfl; exact rfl) | (apply WO.pp; exact rfl; exact rfl)
      all_goals refine ⟨.inr rfl, rfl, _, rfl, ?_, rfl⟩
      all_goals simp_all [tupA, roundK, roundR, roundN, roundE, stepOf, overwrite]
      all_goals omega
    · repeat' first | apply W.seq | apply SQn | apply W.region | apply WO.nil | apply W.block | apply W.ret | apply W.exit | apply W.skip | apply SQr | apply SQe | apply BQn | apply BQr | apply BQe | (apply BQo; exact rfl) | apply LQe | apply LQr | (apply W.drawro; exact rfl) | apply W.draw | apply WD.nil | (apply WD.gT; exact rfl) | (apply WD.gF; exact rfl) | (apply WD.sT; exact rfl) | (apply WD.sF; exact rfl) | (apply WD.sU; exact rfl) | (apply WD.pure1; exact rfl) | (apply WD.load1; exact rfl; exact rfl; exact rfl) | (apply WD.store1; exact rfl; exact rfl; exact rfl) | (apply WD.new1; exact rfl) | (apply WD.clb; exact rfl; exact rfl; exact rfl; exact rfl; all_goals first | (intro h; exact absurd h (by decide)) | intro _) | (apply WD.cl0; exact rfl; exact rfl; exact rfl; exact rfl) | (apply WD.cl1; exact rfl; exact rfl; exact rfl; exact rfl) | (apply W.condT; exact rfl) | (apply W.condF; exact rfl) | (apply W.cond; exact rfl; all_goals intro _) | (apply WO.gT; exact rfl) | (apply WO.gF; exact rfl) | (apply WO.sT; exact rfl) | (apply WO.sF; exact rfl) | (apply WO.sU; exact rfl) | (apply WO.lss; exact rfl; exact rfl; all_goals first | (intro _; exfalso; omega) | intro _) | (apply WO.gtr; exact rfl; exact rfl; all_goals first | (intro _; exfalso; omega) | intro _) | (apply WO.eql; exact rfl; exact rfl; all_goals first | (intro _; exfalso; omega) | intro _) | (apply WO.neq; exact rfl; exact rfl; all_goals first | (intro _; exfalso; omega) | intro _) | (apply WO.pkT; exact rfl; exact rfl) | (apply WO.pkF; exact rfl; exact rfl) | (apply WO.add; exact rfl; exact rfl; omega) | (apply WO.mul; exact rfl; exact rfl; omega) | (apply WO.quop; exact rfl; exact rfl; omega; omega; intro _ _) | (apply WO.quon; exact rfl; exact rfl; omega; omega; intro _ _) | (apply WO.quo; exact rfl; exact rfl; omega; omega) | (apply WO.cll; exact rfl; exact rfl; first | exact hs _) | (apply WD.cl0; exact rfl; exact rfl; exact rfl; first | exact hmN _ | exact hmT _ | exact hmL _ | exact hmP _) | (apply WO.seql; exact rfl; exact rfl; all_goals first | (intro h; exact absurd h (by decide)) | (intro h; exact absurd rfl h) | (intro h; contradiction) | intro _) | (apply WO.sneq; exact rfl; exact rfl; all_goals first | (intro h; exact absurd h (by decide)) | (intro h; exact absurd rfl h) | (intro h; contradiction) | intro _) | (apply WO.clb; exact rfl; exact rfl; exact rfl; all_goals first | (intro h; exact absurd h (by decide)) | intro _) | (apply WO.cll; exact rfl; exact rfl; exact rfl) | (apply WO.hlv; exact rfl; exact rfl; exact rfl) | (apply WO.hpv; exact rfl; exact rfl; exact rfl) | (apply WO.hnv; exact rfl; exact rfl; exact rfl) | (apply WO.pl; exact rfl; exact rfl) | (apply WO.pp; exact rfl; exact rfl)
      all_goals refine ⟨.inr rfl, rfl, _, rfl, ?_, rfl⟩
      all_goals simp_all [tupA, roundK, roundR, roundN, roundE, stepOf, overwrite]
      all_goals omega
    · repeat' first | apply W.seq | apply SQn | apply W.region | apply WO.nil | apply W.block | apply W.ret | apply W.exit | apply W.skip | apply SQr | apply SQe | apply BQn | apply BQr | apply BQe | (apply BQo; exact rfl) | apply LQe | apply LQr | (apply W.drawro; exact rfl) | apply W.draw | apply WD.nil | (apply WD.gT; exact rfl) | (apply WD.gF; exact rfl) | (apply WD.sT; exact rfl) | (apply WD.sF; exact rfl) | (apply WD.sU; exact rfl) | (apply WD.pure1; exact rfl) | (apply WD.load1; exact rfl; exact rfl; exact rfl) | (apply WD.store1; exact rfl; exact rfl; exact rfl) | (apply WD.new1; exact rfl) | (apply WD.clb; exact rfl; exact rfl; exact rfl; exact rfl; all_goals first | (intro h; exact absurd h (by decide)) | intro _) | (apply WD.cl0; exact rfl; exact rfl; exact rfl; exact rfl) | (apply WD.cl1; exact rfl; exact rfl; exact rfl; exact rfl) | (apply W.condT; exact rfl) | (apply W.condF; exact rfl) | (apply W.cond; exact rfl; all_goals intro _) | (apply WO.gT; exact rfl) | (apply WO.gF; exact rfl) | (apply WO.sT; exact rfl) | (apply WO.sF; exact rfl) | (apply WO.sU; exact rfl) | (apply WO.lss; exact rfl; exact rfl; all_goals first | (intro _; exfalso; omega) | intro _) | (apply WO.gtr; exact rfl; exact rfl; all_goals first | (intro _; exfalso; omega) | intro _) | (apply WO.eql; exact rfl; exact rfl; all_goals first | (intro _; exfalso; omega) | intro _) | (apply WO.neq; exact rfl; exact rfl; all_goals first | (intro _; exfalso; omega) | intro _) | (apply WO.pkT; exact rfl; exact rfl) | (apply WO.pkF; exact rfl; exact rfl) | (apply WO.add; exact rfl; exact rfl; omega) | (apply WO.mul; exact rfl; exact rfl; omega) | (apply WO.quop; exact rfl; exact rfl; omega; omega; intro _ _) | (apply WO.quon; exact rfl; exact rfl; omega; omega; intro _ _) | (apply WO.quo; exact rfl; exact rfl; omega; omega) | (apply WO.cll; exact rfl; exact rfl; first | exact hs _) | (apply WD.cl0; exact rfl; exact rfl; exact rfl; first | exact hmN _ | exact hmT _ | exact hmL _ | exact hmP _) | (apply WO.seql; exact rfl; exact rfl; all_goals first | (intro h; exact absurd h (by decide)) | (intro h; exact absurd rfl h) | (intro h; contradiction) | intro _) | (apply WO.sneq; exact rfl; exact rfl; all_goals first | (intro h; exact absurd h (by decide)) | (intro h; exact absurd rfl h) | (intro h; contradiction) | intro _) | (apply WO.clb; exact rfl; exact rfl; exact rfl; all_goals first | (intro h; exact absurd h (by decide)) | intro _) | (apply WO.cll; exact rfl; exact rfl; exact rfl) | (apply WO.hlv; exact rfl; exact rfl; exact rfl) | (apply WO.hpv; exact rfl; exact rfl; exact rfl) | (apply WO.hnv; exact rfl; exact rfl; exact rfl) | (apply WO.pl; exact rfl; exact rfl) | (apply WO.pp; exact rfl; exact rfl)
      all_goals refine ⟨.inr rfl, rfl, _, rfl, ?_, rfl⟩
      all_goals simp_all [tupA, roundK, roundR, roundN, roundE, stepOf, overwrite]
      all_goals omega
end Go.Ab.Ch1


/-
  Own work: marks of chapter 1: winds, the reference's order, MarkChecks.
-/
namespace Go.Ab.Ch1
variable {inv : InvF} {F : FuncId → Option IFunc}

/-- Hundredths as tenths, upwards. -/
def wind (h : Int) : Int := -(-h / 10)
def specWind : Spec := fun
  | [.int .i64 n], h => some ⟨.tup [.int .i64 (if n < -9999 ∨ 9999 < n then 0 else wind n), .int .i64 (if n < -9999 ∨ 9999 < n then 3 else 0)], h, []⟩
  | _, _ => none
def specOut : Spec := fun
  | [.int .i64 x, .int .i64 lo, .int .i64 hi], h => some ⟨.bool (decide (x < lo) || decide (hi < x)), h, []⟩
  | _, _ => none
def TWind : List (Nat × Spec) := [(95, specOut)]
theorem w42 (hft : F = FT) (n : Int) : Run (mk0 TWind inv F) 42 [.int .i64 n] [] ⟨.tup [.int .i64 (if n < -9999 ∨ 9999 < n then 0 else wind n), .int .i64 (if n < -9999 ∨ 9999 < n then 3 else 0)], [], []⟩ := by
  refine run_of_W (show F 42 = _ from by rw [hft]; exact ft42) (by simp) ?_
  unfold b42
  simp only [List.map_cons, List.map_nil, List.getElem?_cons_zero, List.getElem?_cons_succ, List.getElem?_nil, Option.getD_some, Option.getD_none]
  by_cases hc : n < -9999 ∨ 9999 < n
  · have ho : ∀ h, (mk0 TWind inv F).ext 95 [.int .i64 n, .int .i64 (-9999), .int .i64 9999] h = some ⟨.bool true, h, []⟩ := fun h => by
      show some _ = _
      rw [show (decide (n < -9999) || decide (9999 < n)) = true from by simpa using hc]
    repeat' first | apply W.seq | apply SQn | apply W.region | apply WO.nil | apply W.block | apply W.ret | apply W.exit | apply W.skip | apply SQr | apply SQe | apply BQn | apply BQr | apply BQe | (apply BQo; exact rfl) | apply LQe | apply LQr | (apply W.condT; exact rfl) | (apply W.condF; exact rfl) | (apply W.cond; exact rfl; all_goals intro _) | (apply WO.gT; exact rfl) | (apply WO.gF; exact rfl) | (apply WO.sT; exact rfl) | (apply WO.sF; exact rfl) | (apply WO.sU; exact rfl) | (apply WO.gtr; exact rfl; exact rfl; all_goals first | (intro _; exfalso; omega) | intro _) | (apply WO.neq; exact rfl; exact rfl; all_goals first | (intro _; exfalso; omega) | intro _) | (apply WO.pkT; exact rfl; exact rfl) | (apply WO.pkF; exact rfl; exact rfl) | (apply WO.add; exact rfl; exact rfl; omega) | (apply WO.remp; exact rfl; exact rfl; omega; intro _ _) | (apply WO.remn; exact rfl; exact rfl; omega; intro _ _) | (apply WO.quop; exact rfl; exact rfl; omega; omega; intro _ _) | (apply WO.quon; exact rfl; exact rfl; omega; omega; intro _ _) | (apply WO.rem; exact rfl; exact rfl; omega) | (apply WO.quo; exact rfl; exact rfl; omega; omega) | (apply WO.cll; exact rfl; exact rfl; first | exact ho _) | (apply WO.sneq; exact rfl; exact rfl; all_goals first | (intro h; exact absurd h (by decide)) | (intro h; exact absurd rfl h) | (intro h; contradiction) | intro _) | (apply WO.clb; exact rfl; exact rfl; exact rfl; all_goals first | (intro h; exact absurd h (by decide)) | intro _) | (apply WO.cll; exact rfl; exact rfl; exact rfl) | (apply WO.pl; exact rfl; exact rfl) | (apply WO.pp; exact rfl; exact rfl)
    exact ⟨.inr rfl, rfl, _, rfl, by rw [if_pos hc, if_pos hc]; rfl, rfl⟩
  · have ho : ∀ h, (mk0 TWind inv F).ext 95 [.int .i64 n, .int .i64 (-9999), .int .i64 9999] h = some ⟨.bool false, h, []⟩ := fun h => by
      show some _ = _
      rw [show (decide (n < -9999) || decide (9999 < n)) = false from by simp; omega]
    rcases Int.le_total 0 n with h0 | h0
    · repeat' first | apply W.seq | apply SQn | apply W.region | apply WO.nil | apply W.block | apply W.ret | apply W.exit | apply W.skip | apply SQr | apply SQe | apply BQn | apply BQr | apply BQe | (apply BQo; exact rfl) | apply LQe | apply LQr | (apply W.condT; exact rfl) | (apply W.condF; exact rfl) | (apply W.cond; exact rfl; all_goals intro _) | (apply WO.gT; exact rfl) | (apply WO.gF; exact rfl) | (apply WO.sT; exact rfl) | (apply WO.sF; exact rfl) | (apply WO.sU; exact rfl) | (apply WO.gtr; exact rfl; exact rfl; all_goals first | (intro _; exfalso; omega) | intro _) | (apply WO.neq; exact rfl; exact rfl; all_goals first | (intro _; exfalso; omega) | intro _) | (apply WO.pkT; exact rfl; exact rfl) | (apply WO.pkF; exact rfl; exact rfl) | (apply WO.add; exact rfl; exact rfl; omega) | (apply WO.remp; exact rfl; exact rfl; omega; intro _ _) | (apply WO.remn; exact rfl; exact rfl; omega; intro _ _) | (apply WO.quop; exact rfl; exact rfl; omega; omega; intro _ _) | (apply WO.quon; exact rfl; exact rfl; omega; omega; intro _ _) | (apply WO.rem; exact rfl; exact rfl; omega) | (apply WO.quo; exact rfl; exact rfl; omega; omega) | (apply WO.cll; exact rfl; exact rfl; first | exact ho _) | (apply WO.sneq; exact rfl; exact rfl; all_goals first | (intro h; exact absurd h (by decide)) | (intro h; exact absurd rfl h) | (intro h; contradiction) | intro _) | (apply WO.clb; exact rfl; exact rfl; exact rfl; all_goals first | (intro h; exact absurd h (by decide)) | intro _) | (apply WO.cll; exact rfl; exact rfl; exact rfl) | (apply WO.pl; exact rfl; exact rfl) | (apply WO.pp; exact rfl; exact rfl)
      all_goals refine ⟨.inr rfl, rfl, _, rfl, ?_, rfl⟩
      all_goals (rw [if_neg hc, if_neg hc]; simp only [tupA, AV.tup.injEq, List.cons.injEq, AV.int.injEq, true_and, and_true]; unfold wind; omega)
    · repeat' first | apply W.seq | apply SQn | apply W.region | apply WO.nil | apply W.block | apply W.ret | apply W.exit | apply W.skip | apply SQr | apply SQe | apply BQn | apply BQr | apply BQe | (apply BQo; exact rfl) | apply LQe | apply LQr | (apply W.condT; exact rfl) | (apply W.condF; exact rfl) | (apply W.cond; exact rfl; all_goals intro _) | (apply WO.gT; exact rfl) | (apply WO.gF; exact rfl) | (apply WO.sT; exact rfl) | (apply WO.sF; exact rfl) | (apply WO.sU; exact rfl) | (apply WO.gtr; exact rfl; exact rfl; all_goals first | (intro _; exfalso; omega) | intro _) | (apply WO.neq; exact rfl; exact rfl; all_goals first | (intro _; exfalso; omega) | intro _) | (apply WO.pkT; exact rfl; exact rfl) | (apply WO.pkF; exact rfl; exact rfl) | (apply WO.add; exact rfl; exact rfl; omega) | (apply WO.remp; exact rfl; exact rfl; omega; intro _ _) | (apply WO.remn; exact rfl; exact rfl; omega; intro _ _) | (apply WO.quop; exact rfl; exact rfl; omega; omega; intro _ _) | (apply WO.quon; exact rfl; exact rfl; omega; omega; intro _ _) | (apply WO.rem; exact rfl; exact rfl; omega) | (apply WO.quo; exact rfl; exact rfl; omega; omega) | (apply WO.cll; exact rfl; exact rfl; first | exact ho _) | (apply WO.sneq; exact rfl; exact rfl; all_goals first | (intro h; exact absurd h (by decide)) | (intro h; exact absurd rfl h) | (intro h; contradiction) | intro _) | (apply WO.clb; exact rfl; exact rfl; exact rfl; all_goals first | (intro h; exact absurd h (by decide)) | intro _) | (apply WO.cll; exact rfl; exact rfl; exact rfl) | (apply WO.pl; exact rfl; exact rfl) | (apply WO.pp; exact rfl; exact rfl)
      all_goals refine ⟨.inr rfl, rfl, _, rfl, ?_, rfl⟩
      all_goals (rw [if_neg hc, if_neg hc]; simp only [tupA, AV.tup.injEq, List.cons.injEq, AV.int.injEq, true_and, and_true]; unfold wind; omega)
theorem w43 {T : List (Nat × Spec)} (hft : F = FT) (n : Int) (h0 : -9999 ≤ n) (h1 : n ≤ 9999) : Run (mk0 T inv F) 43 [.int .i64 n] [] ⟨.int .i64 (wind n), [], []⟩ := by
  refine run_of_W (show F 43 = _ from by rw [hft]; exact ft43) (by simp) ?_
  unfold b43
  simp only [List.map_cons, List.map_nil, List.getElem?_cons_zero, List.getElem?_cons_succ, List.getElem?_nil, Option.getD_some, Option.getD_none]
  rcases Int.le_total 0 n with h0 | h0
  · repeat' first | apply W.seq | apply SQn | apply W.region | apply WO.nil | apply W.block | apply W.ret | apply W.exit | apply W.skip | apply SQr | apply SQe | apply BQn | apply BQr | apply BQe | (apply BQo; exact rfl) | apply LQe | apply LQr | (apply W.condT; exact rfl) | (apply W.condF; exact rfl) | (apply W.cond; exact rfl; all_goals intro _) | (apply WO.lss; exact rfl; exact rfl; all_goals first | (intro _; exfalso; omega) | intro _) | (apply WO.add; exact rfl; exact rfl; omega) | (apply WO.mul; exact rfl; exact rfl; omega) | (apply WO.quop; exact rfl; exact rfl; omega; omega; intro _ _) | (apply WO.quon; exact rfl; exact rfl; omega; omega; intro _ _) | (apply WO.quo; exact rfl; exact rfl; omega; omega) | (apply WO.pl; exact rfl; exact rfl) | (apply WO.pp; exact rfl; exact rfl)
    all_goals exact ⟨.inr rfl, rfl, _, rfl, congrArg (AV.int .i64) (by unfold wind; omega), rfl⟩
  · repeat' first | apply W.seq | apply SQn | apply W.region | apply WO.nil | apply W.block | apply W.ret | apply W.exit | apply W.skip | apply SQr | apply SQe | apply BQn | apply BQr | apply BQe | (apply BQo; exact rfl) | apply LQe | apply LQr | (apply W.condT; exact rfl) | (apply W.condF; exact rfl) | (apply W.cond; exact rfl; all_goals intro _) | (apply WO.lss; exact rfl; exact rfl; all_goals first | (intro _; exfalso; omega) | intro _) | (apply WO.add; exact rfl; exact rfl; omega) | (apply WO.mul; exact rfl; exact rfl; omega) | (apply WO.quop; exact rfl; exact rfl; omega; omega; intro _ _) | (apply WO.quon; exact rfl; exact rfl; omega; omega; intro _ _) | (apply WO.quo; exact rfl; exact rfl; omega; omega) | (apply WO.pl; exact rfl; exact rfl) | (apply WO.pp; exact rfl; exact rfl)
    all_goals exact ⟨.inr rfl, rfl, _, rfl, congrArg (AV.int .i64) (by unfold wind; omega), rfl⟩

theorem worth_time {v : Int} (h0 : 0 ≤ v) (h1 : v ≤ 863999999) : worth sTime v = -v := by
  unfold worth
  rw [if_pos rfl, show 0 - v = -v from by omega]
  exact i64_wrap (by omega)

set_option maxHeartbeats 8000000 in
theorem w39 {T : List (Nat × Spec)} (hft : F = FT) (k : List UInt8) (v : Int) (r : List UInt8) (k' : List UInt8) (v' : Int) (r' : List UInt8) (h : chk k v r = 0) (h' : chk k' v' r' = 0) (hd : differ k k' = false) : Run (mk0 T inv F) 39 [mkM k v r, mkM k' v' r'] [] ⟨.int .i64 (cmpW (worth k v) (worth k' v')), [], []⟩ := by
  refine run_of_W (show F 39 = _ from by rw [hft]; exact ft39) (by simp) ?_
  unfold b39
  simp only [List.map_cons, List.map_nil, List.getElem?_cons_zero, List.getElem?_cons_succ, List.getElem?_nil, Option.getD_some, Option.getD_none]
  have w1 : worth sLength v = v := rfl
  have w2 : worth sLength v' = v' := rfl
  have w3 : worth sPoints v = v := rfl
  have w4 : worth sPoints v' = v' := rfl
  have w5 : ∀ z, worth sNone z = -864000000 := fun _ => rfl
  rcases chk_zero h with ⟨rfl, hr, rfl⟩ | ⟨hk, rfl | rfl | rfl, rfl, hl, hm⟩
  all_goals rcases chk_zero h' with ⟨rfl, hr', rfl⟩ | ⟨hk', rfl | rfl | rfl, rfl, hl', hm'⟩
  all_goals try simp only [kLeast, kMost] at hl hm
  all_goals try simp (decide := true) at hl hm
  all_goals try simp only [kLeast, kMost] at hl' hm'
  all_goals try simp (decide := true) at hl' hm'
  all_goals first | (exfalso; revert hd; decide) | skip
  all_goals try rw [worth_time (v := v) (by omega) (by omega)]
  all_goals try rw [worth_time (v := v') (by omega) (by omega)]
  all_goals try simp only [w1, w2, w3, w4, w5]
  all_goals
    repeat' first | apply W.seq | apply SQn | apply W.region | apply WO.nil | apply W.block | apply W.ret | apply W.exit | apply W.skip | apply SQr | apply SQe | apply BQn | apply BQr | apply BQe | (apply BQo; exact rfl) | apply LQe | apply LQr | (apply W.drawro; exact rfl) | apply W.draw | apply WD.nil | (apply WD.gT; exact rfl) | (apply WD.gF; exact rfl) | (apply WD.sT; exact rfl) | (apply WD.sF; exact rfl) | (apply WD.sU; exact rfl) | (apply WD.pure1; exact rfl) | (apply WD.load1; exact rfl; exact rfl; exact rfl) | (apply WD.new1; exact rfl) | (apply W.condT; exact rfl) | (apply W.condF; exact rfl) | (apply W.cond; exact rfl; all_goals intro _) | (apply WO.gT; exact rfl) | (apply WO.gF; exact rfl) | (apply WO.sT; exact rfl) | (apply WO.sF; exact rfl) | (apply WO.sU; exact rfl) | (apply WO.lss; exact rfl; exact rfl; all_goals first | (intro _; exfalso; omega) | intro _) | (apply WO.gtr; exact rfl; exact rfl; all_goals first | (intro _; exfalso; omega) | intro _) | (apply WO.eql; exact rfl; exact rfl; all_goals first | (intro _; exfalso; omega) | intro _) | (apply WO.pkT; exact rfl; exact rfl) | (apply WO.pkF; exact rfl; exact rfl) | (apply WO.seql; exact rfl; exact rfl; all_goals first | (intro h; exact absurd h (by decide)) | (intro h; exact absurd rfl h) | (intro h; contradiction) | intro _) | (apply WO.hlv; exact rfl; exact rfl; exact rfl) | (apply WO.hpv; exact rfl; exact rfl; exact rfl) | (apply WO.hnv; exact rfl; exact rfl; exact rfl) | (apply WO.pl; exact rfl; exact rfl) | (apply WO.pp; exact rfl; exact rfl)
  all_goals refine ⟨.inr rfl, rfl, _, rfl, congrArg (AV.int .i64) ?_, rfl⟩
  all_goals unfold cmpW
  all_goals first | rfl | (rw [if_pos (by omega)]; done) | (rw [if_neg (by omega), if_pos (by omega)]; done) | (rw [if_neg (by omega), if_neg (by omega)]; done)

theorem w34 {T : List (Nat × Spec)} (hft : F = FT) (k : List UInt8) (v : Int) (r : List UInt8) : Run (mk0 T inv F) 34 [mkM k v r] [] ⟨.bool (decide (k.length ≤ 40 ∧ r.length ≤ 40)), [], []⟩ := by
  refine run_of_W (show F 34 = _ from by rw [hft]; exact ft34) (by simp) ?_
  unfold b34
  simp only [List.map_cons, List.map_nil, List.getElem?_cons_zero, List.getElem?_cons_succ, List.getElem?_nil, Option.getD_some, Option.getD_none]
  repeat' first | apply W.seq | apply SQn | apply W.region | apply WO.nil | apply W.block | apply W.ret | apply W.exit | apply W.skip | apply SQr | apply SQe | apply BQn | apply BQr | apply BQe | (apply BQo; exact rfl) | apply LQe | apply LQr | (apply W.condT; exact rfl) | (apply W.condF; exact rfl) | (apply W.cond; exact rfl; all_goals intro _) | (apply WO.gT; exact rfl) | (apply WO.gF; exact rfl) | (apply WO.sT; exact rfl) | (apply WO.sF; exact rfl) | (apply WO.sU; exact rfl) | (apply WO.leq; exact rfl; exact rfl; all_goals first | (intro _; exfalso; omega) | intro _) | (apply WO.pkT; exact rfl; exact rfl) | (apply WO.pkF; exact rfl; exact rfl) | (apply WO.hlv; exact rfl; exact rfl; exact rfl) | (apply WO.hpv; exact rfl; exact rfl; exact rfl) | (apply WO.hnv; exact rfl; exact rfl; exact rfl) | (apply WO.pl; exact rfl; exact rfl) | (apply WO.pp; exact rfl; exact rfl)
  all_goals exact ⟨.inr rfl, rfl, _, rfl, congrArg AV.bool (by first | (rw [eq_comm, decide_eq_true_eq]; omega) | (rw [eq_comm, decide_eq_false_iff_not]; omega)), rfl⟩
theorem w38 {T : List (Nat × Spec)} (hft : F = FT) (a e b w : Int) : Run (mk0 T inv F) 38 [.int .i64 a, .int .i64 e, .int .i64 b, .int .i64 w] [] ⟨.bool (decide (if b ≠ 0 then a = 0 ∧ e = b else e = 0 ∧ a = w)), [], []⟩ := by
  refine run_of_W (show F 38 = _ from by rw [hft]; exact ft38) (by simp) ?_
  unfold b38
  simp only [List.map_cons, List.map_nil, List.getElem?_cons_zero, List.getElem?_cons_succ, List.getElem?_nil, Option.getD_some, Option.getD_none]
  repeat' first | apply W.seq | apply SQn | apply W.region | apply WO.nil | apply W.block | apply W.ret | apply W.exit | apply W.skip | apply SQr | apply SQe | apply BQn | apply BQr | apply BQe | (apply BQo; exact rfl) | apply LQe | apply LQr | (apply W.condT; exact rfl) | (apply W.condF; exact rfl) | (apply W.cond; exact rfl; all_goals intro _) | (apply WO.gT; exact rfl) | (apply WO.gF; exact rfl) | (apply WO.sT; exact rfl) | (apply WO.sF; exact rfl) | (apply WO.sU; exact rfl) | (apply WO.eql; exact rfl; exact rfl; all_goals first | (intro _; exfalso; omega) | intro _) | (apply WO.neq; exact rfl; exact rfl; all_goals first | (intro _; exfalso; omega) | intro _) | (apply WO.pkT; exact rfl; exact rfl) | (apply WO.pkF; exact rfl; exact rfl) | (apply WO.seql; exact rfl; exact rfl; all_goals first | (intro h; exact absurd h (by decide)) | (intro h; exact absurd rfl h) | (intro h; contradiction) | intro _) | (apply WO.sneq; exact rfl; exact rfl; all_goals first | (intro h; exact absurd h (by decide)) | (intro h; exact absurd rfl h) | (intro h; contradiction) | intro _) | (apply WO.pl; exact rfl; exact rfl) | (apply WO.pp; exact rfl; exact rfl)
  all_goals exact ⟨.inr rfl, rfl, _, rfl, congrArg AV.bool (by simp_all), rfl⟩
end Go.Ab.Ch1


/-
  Own work: stadionlaw01.MarkChecks answers true.
-/
namespace Go.Ab.Ch1
variable {inv : InvF} {F : FuncId → Option IFunc}

def specAwake : Spec := fun
  | [], h => some ⟨.bool true, h, []⟩
  | _, _ => none
def specBrief : Spec := fun
  | [.agg [.str k, .int .i64 _, .str r]], h => some ⟨.bool (decide (k.length ≤ 40 ∧ r.length ≤ 40)), h, []⟩
  | _, _ => none
def specInteger : Spec := fun
  | [.int .i64 a, .int .i64 e, .int .i64 b, .int .i64 w], h => some ⟨.bool (decide (if b ≠ 0 then a = 0 ∧ e = b else e = 0 ∧ a = w)), h, []⟩
  | _, _ => none
def specRefCmp : Spec := fun
  | [.agg [.str k, .int .i64 v, .str r], .agg [.str k', .int .i64 v', .str r']], h => if chk k v r = 0 ∧ chk k' v' r' = 0 ∧ differ k k' = false then some ⟨.int .i64 (cmpW (worth k v) (worth k' v')), h, []⟩ else none
  | _, _ => none
def specRound : Spec := fun
  | [.agg [.str k, .int .i64 v, .str r], .str c], h => some ⟨roundT k v r c, h, []⟩
  | _, _ => none
def specRefRound : Spec := fun
  | [.agg [.str k, .int .i64 v, .str r], .str c], h => if chk k v r = 0 then some ⟨roundT k v r c, h, []⟩ else none
  | _, _ => none
def specRefWind : Spec := fun
  | [.int .i64 n], h => if -9999 ≤ n ∧ n ≤ 9999 then some ⟨.int .i64 (wind n), h, []⟩ else none
  | _, _ => none
def TMarks : List (Nat × Spec) := [(18, specAwake), (34, specBrief), (35, specChk), (36, specChk), (37, specCompare), (24, specFirst), (25, specWhen), (38, specInteger), (39, specRefCmp), (40, specRound), (41, specRefRound), (42, specWind), (43, specRefWind), (69, specStep)]

/-- What MarkChecks calls. -/
structure Calls5 (M : Mach) : Prop where
  c18 : ∀ h, M.ext 18 [] h = some ⟨.bool true, h, []⟩
  c34 : ∀ k v r h, M.ext 34 [mkM k v r] h = some ⟨.bool (decide (k.length ≤ 40 ∧ r.length ≤ 40)), h, []⟩
  c35 : ∀ k v r h, M.ext 35 [mkM k v r] h = some ⟨.int .i64 (chk k v r), h, []⟩
  c36 : ∀ k v r h, M.ext 36 [mkM k v r] h = some ⟨.int .i64 (chk k v r), h, []⟩
  c37 : ∀ k v r k' v' r' h, M.ext 37 [mkM k v r, mkM k' v' r'] h = some ⟨.tup [.int .i64 (if cmpE k v r k' v' r' ≠ 0 then 0 else cmpW (worth k v) (worth k' v')), .int .i64 (cmpE k v r k' v' r')], h, []⟩
  c24 : ∀ x l h, intsAt h x = some l → l.length < 4611686018427387904 → M.ext 24 [x] h = some ⟨.int .i64 (firstNZ l), h, []⟩
  c25 : ∀ t e h, M.ext 25 [.bool t, .int .i64 e] h = some ⟨.int .i64 (if t then e else 0), h, []⟩
  c38 : ∀ a e b w h, M.ext 38 [.int .i64 a, .int .i64 e, .int .i64 b, .int .i64 w] h = some ⟨.bool (decide (if b ≠ 0 then a = 0 ∧ e = b else e = 0 ∧ a = w)), h, []⟩
  c39 : ∀ k v r k' v' r' h, chk k v r = 0 → chk k' v' r' = 0 → differ k k' = false → M.ext 39 [mkM k v r, mkM k' v' r'] h = some ⟨.int .i64 (cmpW (worth k v) (worth k' v')), h, []⟩
  c40 : ∀ k v r c h, M.ext 40 [mkM k v r, .str c] h = some ⟨roundT k v r c, h, []⟩
  c41 : ∀ k v r c h, chk k v r = 0 → M.ext 41 [mkM k v r, .str c] h = some ⟨roundT k v r c, h, []⟩
  c42 : ∀ n h, M.ext 42 [.int .i64 n] h = some ⟨.tup [.int .i64 (if n < -9999 ∨ 9999 < n then 0 else wind n), .int .i64 (if n < -9999 ∨ 9999 < n then 3 else 0)], h, []⟩
  c43 : ∀ n h, -9999 ≤ n → n ≤ 9999 → M.ext 43 [.int .i64 n] h = some ⟨.int .i64 (wind n), h, []⟩

/-- MarkChecks, from the rounding on. -/
def t5 : ICode :=
 .seq (.region [⟨(.l 97), .load 3 true (.p 3), none⟩,
            ⟨(.l 98), .mv (.p 2), none⟩,
            ⟨(.l 99), .call (.c (.fn (.func 40) [] [])) [(.l 97), (.l 98)], none⟩,
            ⟨(.l 96), .mv (.l 99), none⟩,
            ⟨(.l 100), .extract 0 (.l 96), none⟩,
            ⟨(.l 101), .extract 1 (.l 96), none⟩,
            ⟨(.p 11), .alloc 49 [.str [], .int .i64 (0), .str []], none⟩,
            ⟨.no, .store 3 (.p 11) (.l 100), none⟩,
            ⟨(.p 12), .mv (.l 101), none⟩])
          (.seq (.region [⟨(.l 102), .build [.str [], .int .i64 (0), .str []] [], none⟩,
             ⟨(.l 103), .mv (.p 6), none⟩,
             ⟨(.p 13), .alloc 49 [.str [], .int .i64 (0), .str []], none⟩,
             ⟨.no, .store 3 (.p 13) (.l 102), none⟩,
             ⟨(.p 14), .mv (.l 103), none⟩])
           (.seq (.seq (.region [⟨(.l 104), .mv (.p 14), none⟩,
               ⟨(.l 105), .bin .eql (.l 104) (.c (.int .i64 (0))), none⟩])
             (.cond (.l 105)
              (.region [⟨(.l 107), .load 3 true (.p 3), none⟩,
                ⟨(.l 108), .mv (.p 2), none⟩,
                ⟨(.l 109), .call (.c (.fn (.func 41) [] [])) [(.l 107), (.l 108)], none⟩,
                ⟨(.l 106), .mv (.l 109), none⟩,
                ⟨(.l 110), .extract 0 (.l 106), none⟩,
                ⟨(.l 111), .extract 1 (.l 106), none⟩,
                ⟨.no, .store 3 (.p 13) (.l 110), none⟩,
                ⟨(.p 14), .mv (.l 111), none⟩])
              (.skip)))
            (.seq (.region [⟨(.l 113), .faddr 1 (.p 4), none⟩,
               ⟨(.l 114), .load 1 false (.l 113), none⟩,
               ⟨(.l 115), .call (.c (.fn (.func 42) [] [])) [(.l 114)], none⟩,
               ⟨(.l 112), .mv (.l 115), none⟩,
               ⟨(.l 116), .extract 0 (.l 112), none⟩,
               ⟨(.l 117), .extract 1 (.l 112), none⟩,
               ⟨(.p 15), .mv (.l 116), none⟩,
               ⟨(.p 16), .mv (.l 117), none⟩])
             (.seq (.region [⟨(.l 118), .faddr 1 (.p 4), none⟩,
                ⟨(.l 119), .load 1 false (.l 118), none⟩,
                ⟨(.l 120), .bin .lss (.l 119) (.c (.int .i64 (-9999))), none⟩,
                ⟨(.l 121), .mv (.l 120), none⟩,
                ⟨(.l 122), .faddr 1 (.p 4), some ((.l 121), false)⟩,
                ⟨(.l 123), .load 1 false (.l 122), some ((.l 121), false)⟩,
                ⟨(.l 124), .bin .gtr (.l 123) (.c (.int .i64 (9999))), some ((.l 121), false)⟩,
                ⟨(.l 125), .pick (.l 121) (.c (.bool true)) (.l 124), none⟩,
                ⟨(.l 126), .call (.c (.fn (.func 25) [] [])) [(.l 125), (.c (.int .i64 (3)))], none⟩,
                ⟨(.p 17), .mv (.l 126), none⟩])
              (.seq (.region [⟨(.p 18), .mv (.c (.int .i64 (0))), none⟩])
               (.seq (.seq (.region [⟨(.l 127), .mv (.p 17), none⟩,
                   ⟨(.l 128), .bin .eql (.l 127) (.c (.int .i64 (0))), none⟩])
                 (.cond (.l 128)
                  (.region [⟨(.l 129), .faddr 1 (.p 4), none⟩,
                    ⟨(.l 130), .load 1 false (.l 129), none⟩,
                    ⟨(.l 131), .call (.c (.fn (.func 43) [] [])) [(.l 130)], none⟩,
                    ⟨(.p 18), .mv (.l 131), none⟩])
                  (.skip)))
                (.seq (.region [⟨(.l 132), .load 3 true (.p 11), none⟩,
                   ⟨(.l 133), .load 3 true (.p 13), none⟩,
                   ⟨(.l 134), .eq false (.strct [(0, 1, false, .str), (1, 1, false, .int), (2, 1, false, .str)]) (.l 132) (.l 133), none⟩,
                   ⟨(.l 135), .mv (.l 134), none⟩,
                   ⟨(.l 136), .mv (.p 12), some ((.l 135), true)⟩,
                   ⟨(.l 137), .mv (.p 14), some ((.l 135), true)⟩,
                   ⟨(.l 138), .bin .eql (.l 136) (.l 137), some ((.l 135), true)⟩,
                   ⟨(.l 139), .pick (.l 135) (.l 138) (.c (.bool false)), none⟩,
                   ⟨(.l 140), .mv (.l 139), none⟩,
                   ⟨(.l 141), .mv (.p 15), some ((.l 140), true)⟩,
                   ⟨(.l 142), .mv (.p 16), some ((.l 140), true)⟩,
                   ⟨(.l 143), .mv (.p 17), some ((.l 140), true)⟩,
                   ⟨(.l 144), .mv (.p 18), some ((.l 140), true)⟩,
                   ⟨(.l 145), .call (.c (.fn (.func 38) [] [])) [(.l 141), (.l 142), (.l 143), (.l 144)], some ((.l 140), true)⟩,
                   ⟨(.l 146), .pick (.l 140) (.l 145) (.c (.bool false)), none⟩,
                   ⟨(.p 5), .mv (.l 146), none⟩])
                 (.ret))))))))

set_option maxHeartbeats 16000000 in
theorem tail5 {M : Mach} (C : Calls5 M) (k : List UInt8) (v : Int) (r : List UInt8) (k' : List UInt8) (v' : Int) (r' c : List UInt8) (a7 a8 a9 a10 : AV) (lo : List (Nat × AV)) (b2 : Option Blk) {wr : List Nat} {Q : Ex → StW → Prop}
    (hQ : ∀ s : StW, s.s.dfs = [] → s.s.pe[5]? = some (.bool true) → True = True → Q .ret s) :
    W M t5 ⟨⟨[mkM k v r, mkM k' v' r', .str c, .ptr 0 0, .ptr 1 0, .bool false, .int .i64 (chk k v r), a7, a8, a9, a10, undefA, undefA, undefA, undefA, undefA, undefA, undefA, undefA], lo, [some (.cells [.str k, .int .i64 v, .str r] 49), some (.cells [.str k', .int .i64 v', .str r'] 49), b2], []⟩, wr⟩ Q := by
  have hT : ∀ e h, M.ext 25 [.bool true, .int .i64 e] h = some ⟨.int .i64 e, h, []⟩ := fun e h => C.c25 true e h
  have hN : ∀ e h, M.ext 25 [.bool false, .int .i64 e] h = some ⟨.int .i64 0, h, []⟩ := fun e h => C.c25 false e h
  unfold t5
  by_cases hA : chk k v r = 0
  · have hR1 := C.c40 k v r c
    have hR2 := fun h => C.c41 k v r c h hA
    by_cases hw : v' < -9999 ∨ 9999 < v'
    · have hW1 : ∀ h, M.ext 42 [.int .i64 v'] h = some ⟨.tup [.int .i64 0, .int .i64 3], h, []⟩ := fun h => by rw [C.c42, if_pos hw, if_pos hw]
      have hW2 : ∀ h, M.ext 38 [.int .i64 0, .int .i64 3, .int .i64 3, .int .i64 0] h = some ⟨.bool true, h, []⟩ := fun h => by rw [C.c38]; rfl
      have hW3 := hW2
      repeat' first | apply W.seq | apply SQn | apply W.region | apply WO.nil | apply W.block | apply W.ret | apply W.exit | apply W.skip | apply SQr | apply SQe | apply BQn | apply BQr | apply BQe | (apply BQo; exact rfl) | apply LQe | apply LQr | (apply W.condT; exact rfl) | (apply W.condF; exact rfl) | (apply W.cond; exact rfl; all_goals intro _) | (apply WO.gT; exact rfl) | (apply WO.gF; exact rfl) | (apply WO.sT; exact rfl) | (apply WO.sF; exact rfl) | (apply WO.sU; exact rfl) | (apply WO.lss; exact rfl; exact rfl; all_goals first | (intro _; exfalso; omega) | intro _) | (apply WO.gtr; exact rfl; exact rfl; all_goals first | (intro _; exfalso; omega) | intro _) | (apply WO.eql; exact rfl; exact rfl; all_goals first | (intro _; exfalso; omega) | intro _) | (apply WO.pkT; exact rfl; exact rfl) | (apply WO.pkF; exact rfl; exact rfl) | (apply WO.cll; exact rfl; exact rfl; first | exact hR1 _ | exact hR2 _ | exact hW1 _ | exact hW2 _ | exact hW3 _ | exact hT _ _ | exact hN _ _) | (apply WO.seql; exact rfl; exact rfl; all_goals first | (intro h; exact absurd h (by decide)) | (intro h; exact absurd rfl h) | (intro h; contradiction) | intro _) | (apply WO.clb; exact rfl; exact rfl; exact rfl; all_goals first | (intro h; exact absurd h (by decide)) | intro _) | (apply WO.cll; exact rfl; exact rfl; exact rfl) | (apply WO.eqM; exact rfl; exact rfl; all_goals first | (intro h; exact absurd ⟨rfl, rfl, rfl⟩ h) | intro _) | (apply WO.hlv; exact rfl; exact rfl; exact rfl) | (apply WO.hpv; exact rfl; exact rfl; exact rfl) | (apply WO.hnv; exact rfl; exact rfl; exact rfl) | (apply WO.pl; exact rfl; exact rfl) | (apply WO.pp; exact rfl; exact rfl)
      all_goals exact hQ _ rfl rfl rfl
    · have hW1 : ∀ h, M.ext 42 [.int .i64 v'] h = some ⟨.tup [.int .i64 (wind v'), .int .i64 0], h, []⟩ := fun h => by rw [C.c42, if_neg hw, if_neg hw]
      have hW2 : ∀ h, M.ext 43 [.int .i64 v'] h = some ⟨.int .i64 (wind v'), h, []⟩ := fun h => C.c43 _ _ (by omega) (by omega)
      have hW3 : ∀ h, M.ext 38 [.int .i64 (wind v'), .int .i64 0, .int .i64 0, .int .i64 (wind v')] h = some ⟨.bool true, h, []⟩ := fun h => by rw [C.c38]; simp
      repeat' first | apply W.seq | apply SQn | apply W.region | apply WO.nil | apply W.block | apply W.ret | apply W.exit | apply W.skip | apply SQr | apply SQe | apply BQn | apply BQr | apply BQe | (apply BQo; exact rfl) | apply LQe | apply LQr | (apply W.condT; exact rfl) | (apply W.condF; exact rfl) | (apply W.cond; exact rfl; all_goals intro _) | (apply WO.gT; exact rfl) | (apply WO.gF; exact rfl) | (apply WO.sT; exact rfl) | (apply WO.sF; exact rfl) | (apply WO.sU; exact rfl) | (apply WO.lss; exact rfl; exact rfl; all_goals first | (intro _; exfalso; omega) | intro _) | (apply WO.gtr; exact rfl; exact rfl; all_goals first | (intro _; exfalso; omega) | intro _) | (apply WO.eql; exact rfl; exact rfl; all_goals first | (intro _; exfalso; omega) | intro _) | (apply WO.pkT; exact rfl; exact rfl) | (apply WO.pkF; exact rfl; exact rfl) | (apply WO.cll; exact rfl; exact rfl; first | exact hR1 _ | exact hR2 _ | exact hW1 _ | exact hW2 _ | exact hW3 _ | exact hT _ _ | exact hN _ _) | (apply WO.seql; exact rfl; exact rfl; all_goals first | (intro h; exact absurd h (by decide)) | (intro h; exact absurd rfl h) | (intro h; contradiction) | intro _) | (apply WO.clb; exact rfl; exact rfl; exact rfl; all_goals first | (intro h; exact absurd h (by decide)) | intro _) | (apply WO.cll; exact rfl; exact rfl; exact rfl) | (apply WO.eqM; exact rfl; exact rfl; all_goals first | (intro h; exact absurd ⟨rfl, rfl, rfl⟩ h) | intro _) | (apply WO.hlv; exact rfl; exact rfl; exact rfl) | (apply WO.hpv; exact rfl; exact rfl; exact rfl) | (apply WO.hnv; exact rfl; exact rfl; exact rfl) | (apply WO.pl; exact rfl; exact rfl) | (apply WO.pp; exact rfl; exact rfl)
      all_goals exact hQ _ rfl rfl rfl
  · have hR1 : ∀ h, M.ext 40 [mkM k v r, .str c] h = some ⟨.tup [mkM [] 0 [], .int .i64 (chk k v r)], h, []⟩ := fun h => by
      have e : roundE k v r c = chk k v r := by simp [roundE, hA]
      rw [C.c40]
      simp only [roundT, roundK, roundR, roundN, e, if_pos hA]
    have hR2 := hR1
    by_cases hw : v' < -9999 ∨ 9999 < v'
    · have hW1 : ∀ h, M.ext 42 [.int .i64 v'] h = some ⟨.tup [.int .i64 0, .int .i64 3], h, []⟩ := fun h => by rw [C.c42, if_pos hw, if_pos hw]
      have hW2 : ∀ h, M.ext 38 [.int .i64 0, .int .i64 3, .int .i64 3, .int .i64 0] h = some ⟨.bool true, h, []⟩ := fun h => by rw [C.c38]; rfl
      have hW3 := hW2
      repeat' first | apply W.seq | apply SQn | apply W.region | apply WO.nil | apply W.block | apply W.ret | apply W.exit | apply W.skip | apply SQr | apply SQe | apply BQn | apply BQr | apply BQe | (apply BQo; exact rfl) | apply LQe | apply LQr | (apply W.condT; exact rfl) | (apply W.condF; exact rfl) | (apply W.cond; exact rfl; all_goals intro _) | (apply WO.gT; exact rfl) | (apply WO.gF; exact rfl) | (apply WO.sT; exact rfl) | (apply WO.sF; exact rfl) | (apply WO.sU; exact rfl) | (apply WO.lss; exact rfl; exact rfl; all_goals first | (intro _; exfalso; omega) | intro _) | (apply WO.gtr; exact rfl; exact rfl; all_goals first | (intro _; exfalso; omega) | intro _) | (apply WO.eql; exact rfl; exact rfl; all_goals first | (intro _; exfalso; omega) | intro _) | (apply WO.pkT; exact rfl; exact rfl) | (apply WO.pkF; exact rfl; exact rfl) | (apply WO.cll; exact rfl; exact rfl; first | exact hR1 _ | exact hR2 _ | exact hW1 _ | exact hW2 _ | exact hW3 _ | exact hT _ _ | exact hN _ _) | (apply WO.seql; exact rfl; exact rfl; all_goals first | (intro h; exact absurd h (by decide)) | (intro h; exact absurd rfl h) | (intro h; contradiction) | intro _) | (apply WO.clb; exact rfl; exact rfl; exact rfl; all_goals first | (intro h; exact absurd h (by decide)) | intro _) | (apply WO.cll; exact rfl; exact rfl; exact rfl) | (apply WO.eqM; exact rfl; exact rfl; all_goals first | (intro h; exact absurd ⟨rfl, rfl, rfl⟩ h) | intro _) | (apply WO.hlv; exact rfl; exact rfl; exact rfl) | (apply WO.hpv; exact rfl; exact rfl; exact rfl) | (apply WO.hnv; exact rfl; exact rfl; exact rfl) | (apply WO.pl; exact rfl; exact rfl) | (apply WO.pp; exact rfl; exact rfl)
      all_goals exact hQ _ rfl rfl rfl
    · have hW1 : ∀ h, M.ext 42 [.int .i64 v'] h = some ⟨.tup [.int .i64 (wind v'), .int .i64 0], h, []⟩ := fun h => by rw [C.c42, if_neg hw, if_neg hw]
      have hW2 : ∀ h, M.ext 43 [.int .i64 v'] h = some ⟨.int .i64 (wind v'), h, []⟩ := fun h => C.c43 _ _ (by omega) (by omega)
      have hW3 : ∀ h, M.ext 38 [.int .i64 (wind v'), .int .i64 0, .int .i64 0, .int .i64 (wind v')] h = some ⟨.bool true, h, []⟩ := fun h => by rw [C.c38]; simp
      repeat' first | apply W.seq | apply SQn | apply W.region | apply WO.nil | apply W.block | apply W.ret | apply W.exit | apply W.skip | apply SQr | apply SQe | apply BQn | apply BQr | apply BQe | (apply BQo; exact rfl) | apply LQe | apply LQr | (apply W.condT; exact rfl) | (apply W.condF; exact rfl) | (apply W.cond; exact rfl; all_goals intro _) | (apply WO.gT; exact rfl) | (apply WO.gF; exact rfl) | (apply WO.sT; exact rfl) | (apply WO.sF; exact rfl) | (apply WO.sU; exact rfl) | (apply WO.lss; exact rfl; exact rfl; all_goals first | (intro _; exfalso; omega) | intro _) | (apply WO.gtr; exact rfl; exact rfl; all_goals first | (intro _; exfalso; omega) | intro _) | (apply WO.eql; exact rfl; exact rfl; all_goals first | (intro _; exfalso; omega) | intro _) | (apply WO.pkT; exact rfl; exact rfl) | (apply WO.pkF; exact rfl; exact rfl) | (apply WO.cll; exact rfl; exact rfl; first | exact hR1 _ | exact hR2 _ | exact hW1 _ | exact hW2 _ | exact hW3 _ | exact hT _ _ | exact hN _ _) | (apply WO.seql; exact rfl; exact rfl; all_goals first | (intro h; exact absurd h (by decide)) | (intro h; exact absurd rfl h) | (intro h; contradiction) | intro _) | (apply WO.clb; exact rfl; exact rfl; exact rfl; all_goals first | (intro h; exact absurd h (by decide)) | intro _) | (apply WO.cll; exact rfl; exact rfl; exact rfl) | (apply WO.eqM; exact rfl; exact rfl; all_goals first | (intro h; exact absurd ⟨rfl, rfl, rfl⟩ h) | intro _) | (apply WO.hlv; exact rfl; exact rfl; exact rfl) | (apply WO.hpv; exact rfl; exact rfl; exact rfl) | (apply WO.hnv; exact rfl; exact rfl; exact rfl) | (apply WO.pl; exact rfl; exact rfl) | (apply WO.pp; exact rfl; exact rfl)
      all_goals exact hQ _ rfl rfl rfl

end Go.Ab.Ch1


/-
  Own work: stadionlaw01.MarkChecks answers true: the whole law.
-/
namespace Go.Ab.Ch1

set_option maxHeartbeats 16000000 in
theorem w5 {M : Mach} (hft : M.FT = FT) (C : Calls5 M) (k : List UInt8) (v : Int) (r : List UInt8) (k' : List UInt8) (v' : Int) (r' c : List UInt8) : Run M 5 [mkM k v r, mkM k' v' r', .str c] [] ⟨.bool true, [], []⟩ := by
  have b1 := C.c34 k v r
  have b2 := C.c34 k' v' r'
  refine run_of_W (by rw [hft]; exact ft5) (by simp) ?_
  have hEnd : ∀ s : StW, s.s.dfs = [] → s.s.pe[5]? = some (.bool true) → True = True → ((fun (e : Ex) (s : StW) => (e = .normal ∨ e = .ret) ∧ s.s.dfs = [] ∧ ∃ vs, resultsA s.s [.var (.p 5)] = some vs ∧ tupA vs = .bool true ∧ (if (AV.bool true).top ≤ 0 then [] else s.s.hp) = []) Ex.ret s) := fun s h1 h2 _ =>
    ⟨.inr rfl, h1, [.bool true], by simp only [resultsA, St.opd, h2], rfl, rfl⟩
  unfold b5
  simp only [List.map_cons, List.map_nil, List.getElem?_cons_zero, List.getElem?_cons_succ, List.getElem?_nil, Option.getD_some, Option.getD_none]
  by_cases hs : (k.length ≤ 40 ∧ r.length ≤ 40) ∧ (k'.length ≤ 40 ∧ r'.length ≤ 40) ∧ (c.length : Int) ≤ 40
  · obtain ⟨s1, s2, s3⟩ := hs
    rw [decide_eq_true s1] at b1
    rw [decide_eq_true s2] at b2
    have hP := C.c35 k v r
    have hQ := C.c35 k' v' r'
    have hR := C.c36 k v r
    have hT : ∀ e h, M.ext 25 [.bool true, .int .i64 e] h = some ⟨.int .i64 e, h, []⟩ := fun e h => C.c25 true e h
    have hN : ∀ e h, M.ext 25 [.bool false, .int .i64 e] h = some ⟨.int .i64 0, h, []⟩ := fun e h => C.c25 false e h
    by_cases hA : chk k v r = 0
    · by_cases hB : chk k' v' r' = 0
      · have hf : firstNZ [chk k v r, chk k' v' r'] = 0 := by simp [firstNZ, hA, hB]
        have hF : ∀ h x, intsAt h x = some [chk k v r, chk k' v' r'] → M.ext 24 [x] h = some ⟨.int .i64 0, h, []⟩ := fun h x hx => by rw [C.c24 x _ h hx (by simp), hf]
        by_cases hd : k ≠ k' ∧ k ≠ sNone ∧ k' ≠ sNone
        · obtain ⟨d1, d2, d3⟩ := hd
          have hE : cmpE k v r k' v' r' = 13 := by simp [cmpE, firstNZ, hA, hB, differ, d1, d2, d3]
          have hn0 : (13 : Int) ≠ 0 := by decide
          have hD : ∀ h, M.ext 37 [mkM k v r, mkM k' v' r'] h = some ⟨.tup [.int .i64 0, .int .i64 13], h, []⟩ := fun h => by rw [C.c37, hE, if_pos hn0]
          have hI1 : ∀ h, M.ext 38 [.int .i64 0, .int .i64 13, .int .i64 13, .int .i64 0] h = some ⟨.bool true, h, []⟩ := fun h => by rw [C.c38]; simp [hn0]
          have hC := hP
          repeat' first | (exact tail5 C k v r k' v' r' c _ _ _ _ _ _ hEnd) | apply W.seq | apply SQn | apply W.region | apply WO.nil | apply W.block | apply W.ret | apply W.exit | apply W.skip | apply SQr | apply SQe | apply BQn | apply BQr | apply BQe | (apply BQo; exact rfl) | apply LQe | apply LQr | (apply W.drawro; exact rfl) | apply W.draw | apply WD.nil | (apply WD.gT; exact rfl) | (apply WD.gF; exact rfl) | (apply WD.sT; exact rfl) | (apply WD.sF; exact rfl) | (apply WD.sU; exact rfl) | (apply WD.pure1; exact rfl) | (apply WD.load1; exact rfl; exact rfl; exact rfl) | (apply WD.store1; exact rfl; exact rfl; exact rfl) | (apply WD.new1; exact rfl) | (apply WD.clb; exact rfl; exact rfl; exact rfl; exact rfl; all_goals first | (intro h; exact absurd h (by decide)) | intro _) | (apply WD.cl0; exact rfl; exact rfl; exact rfl; exact rfl) | (apply WD.cl1; exact rfl; exact rfl; exact rfl; exact rfl) | (apply W.condT; exact rfl) | (apply W.condF; exact rfl) | (apply W.cond; exact rfl; all_goals intro _) | (apply WO.gT; exact rfl) | (apply WO.gF; exact rfl) | (apply WO.sT; exact rfl) | (apply WO.sF; exact rfl) | (apply WO.sU; exact rfl) | (apply WO.lss; exact rfl; exact rfl; all_goals first | (intro _; exfalso; omega) | intro _) | (apply WO.gtr; exact rfl; exact rfl; all_goals first | (intro _; exfalso; omega) | intro _) | (apply WO.eql; exact rfl; exact rfl; all_goals first | (intro _; exfalso; omega) | intro _) | (apply WO.neq; exact rfl; exact rfl; all_goals first | (intro _; exfalso; omega) | intro _) | (apply WO.pkT; exact rfl; exact rfl) | (apply WO.pkF; exact rfl; exact rfl) | (apply WO.cll; exact rfl; exact rfl; first | exact C.c18 _ | exact b1 _ | exact b2 _ | exact hD _ | exact hF _ _ rfl | exact hP _ | exact hQ _ | exact hR _ | exact hI1 _ | exact hT _ _ | exact hN _ _ | exact hC _) | (apply WD.cl0; exact rfl; exact rfl; exact rfl; first | exact C.c18 _ | exact b1 _ | exact b2 _ | exact hD _ | exact hF _ _ rfl | exact hP _ | exact hQ _ | exact hR _ | exact hI1 _ | exact hT _ _ | exact hN _ _ | exact hC _) | (apply WO.seql; exact rfl; exact rfl; all_goals first | (intro h; exact absurd h (by decide)) | (intro h; exact absurd rfl h) | (intro h; contradiction) | intro _) | (apply WO.sneq; exact rfl; exact rfl; all_goals first | (intro h; exact absurd h (by decide)) | (intro h; exact absurd rfl h) | (intro h; contradiction) | intro _) | (apply WO.clb; exact rfl; exact rfl; exact rfl; all_goals first | (intro h; exact absurd h (by decide)) | intro _) | (apply WO.cll; exact rfl; exact rfl; exact rfl) | (apply WO.eqM; exact rfl; exact rfl; all_goals first | (intro h; exact absurd ⟨rfl, rfl, rfl⟩ h) | intro _) | (apply WO.hlv; exact rfl; exact rfl; exact rfl) | (apply WO.hpv; exact rfl; exact rfl; exact rfl) | (apply WO.hnv; exact rfl; exact rfl; exact rfl) | (apply WO.pl; exact rfl; exact rfl) | (apply WO.pp; exact rfl; exact rfl)
        · have hdf : differ k k' = false := decide_eq_false hd
          have hE : cmpE k v r k' v' r' = 0 := by simp [cmpE, firstNZ, hA, hB, hdf]
          have hD : ∀ h, M.ext 37 [mkM k v r, mkM k' v' r'] h = some ⟨.tup [.int .i64 (cmpW (worth k v) (worth k' v')), .int .i64 0], h, []⟩ := fun h => by rw [C.c37, hE]; rfl
          have hC := fun h => C.c39 k v r k' v' r' h hA hB hdf
          have hI1 : ∀ h, M.ext 38 [.int .i64 (cmpW (worth k v) (worth k' v')), .int .i64 0, .int .i64 0, .int .i64 (cmpW (worth k v) (worth k' v'))] h = some ⟨.bool true, h, []⟩ := fun h => by rw [C.c38]; simp
          repeat' first | (exact tail5 C k v r k' v' r' c _ _ _ _ _ _ hEnd) | apply W.seq | apply SQn | apply W.region | apply WO.nil | apply W.block | apply W.ret | apply W.exit | apply W.skip | apply SQr | apply SQe | apply BQn | apply BQr | apply BQe | (apply BQo; exact rfl) | apply LQe | apply LQr | (apply W.drawro; exact rfl) | apply W.draw | apply WD.nil | (apply WD.gT; exact rfl) | (apply WD.gF; exact rfl) | (apply WD.sT; exact rfl) | (apply WD.sF; exact rfl) | (apply WD.sU; exact rfl) | (apply WD.pure1; exact rfl) | (apply WD.load1; exact rfl; exact rfl; exact rfl) | (apply WD.store1; exact rfl; exact rfl; exact rfl) | (apply WD.new1; exact rfl) | (apply WD.clb; exact rfl; exact rfl; exact rfl; exact rfl; all_goals first | (intro h; exact absurd h (by decide)) | intro _) | (apply WD.cl0; exact rfl; exact rfl; exact rfl; exact rfl) | (apply WD.cl1; exact rfl; exact rfl; exact rfl; exact rfl) | (apply W.condT; exact rfl) | (apply W.condF; exact rfl) | (apply W.cond; exact rfl; all_goals intro _) | (apply WO.gT; exact rfl) | (apply WO.gF; exact rfl) | (apply WO.sT; exact rfl) | (apply WO.sF; exact rfl) | (apply WO.sU; exact rfl) | (apply WO.lss; exact rfl; exact rfl; all_goals first | (intro _; exfalso; omega) | intro _) | (apply WO.gtr; exact rfl; exact rfl; all_goals first | (intro _; exfalso; omega) | intro _) | (apply WO.eql; exact rfl; exact rfl; all_goals first | (intro _; exfalso; omega) | intro _) | (apply WO.neq; exact rfl; exact rfl; all_goals first | (intro _; exfalso; omega) | intro _) | (apply WO.pkT; exact rfl; exact rfl) | (apply WO.pkF; exact rfl; exact rfl) | (apply WO.cll; exact rfl; exact rfl; first | exact C.c18 _ | exact b1 _ | exact b2 _ | exact hD _ | exact hF _ _ rfl | exact hP _ | exact hQ _ | exact hR _ | exact hI1 _ | exact hT _ _ | exact hN _ _ | exact hC _) | (apply WD.cl0; exact rfl; exact rfl; exact rfl; first | exact C.c18 _ | exact b1 _ | exact b2 _ | exact hD _ | exact hF _ _ rfl | exact hP _ | exact hQ _ | exact hR _ | exact hI1 _ | exact hT _ _ | exact hN _ _ | exact hC _) | (apply WO.seql; exact rfl; exact rfl; all_goals first | (intro h; exact absurd h (by decide)) | (intro h; exact absurd rfl h) | (intro h; contradiction) | intro _) | (apply WO.sneq; exact rfl; exact rfl; all_goals first | (intro h; exact absurd h (by decide)) | (intro h; exact absurd rfl h) | (intro h; contradiction) | intro _) | (apply WO.clb; exact rfl; exact rfl; exact rfl; all_goals first | (intro h; exact absurd h (by decide)) | intro _) | (apply WO.cll; exact rfl; exact rfl; exact rfl) | (apply WO.eqM; exact rfl; exact rfl; all_goals first | (intro h; exact absurd ⟨rfl, rfl, rfl⟩ h) | intro _) | (apply WO.hlv; exact rfl; exact rfl; exact rfl) | (apply WO.hpv; exact rfl; exact rfl; exact rfl) | (apply WO.hnv; exact rfl; exact rfl; exact rfl) | (apply WO.pl; exact rfl; exact rfl) | (apply WO.pp; exact rfl; exact rfl)
          all_goals exact absurd ⟨by assumption, by assumption, by assumption⟩ hd
      · have hf : firstNZ [chk k v r, chk k' v' r'] = chk k' v' r' := by simp [firstNZ, hA, hB]
        have hE : cmpE k v r k' v' r' = chk k' v' r' := by simp [cmpE, firstNZ, hA, hB]
        have hn0 : chk k' v' r' ≠ 0 := hB
        have hD : ∀ h, M.ext 37 [mkM k v r, mkM k' v' r'] h = some ⟨.tup [.int .i64 0, .int .i64 (chk k' v' r')], h, []⟩ := fun h => by rw [C.c37, hE, if_pos hn0]
        have hI1 : ∀ h, M.ext 38 [.int .i64 0, .int .i64 (chk k' v' r'), .int .i64 (chk k' v' r'), .int .i64 0] h = some ⟨.bool true, h, []⟩ := fun h => by rw [C.c38]; simp [hn0]
        have hC := hP
        have hF : ∀ h x, intsAt h x = some [chk k v r, chk k' v' r'] → M.ext 24 [x] h = some ⟨.int .i64 (chk k' v' r'), h, []⟩ := fun h x hx => by rw [C.c24 x _ h hx (by simp), hf]
        repeat' first | (exact tail5 C k v r k' v' r' c _ _ _ _ _ _ hEnd) | apply W.seq | apply SQn | apply W.region | apply WO.nil | apply W.block | apply W.ret | apply W.exit | apply W.skip | apply SQr | apply SQe | apply BQn | apply BQr | apply BQe | (apply BQo; exact rfl) | apply LQe | apply LQr | (apply W.drawro; exact rfl) | apply W.draw | apply WD.nil | (apply WD.gT; exact rfl) | (apply WD.gF; exact rfl) | (apply WD.sT; exact rfl) | (apply WD.sF; exact rfl) | (apply WD.sU; exact rfl) | (apply WD.pure1; exact rfl) | (apply WD.load1; exact rfl; exact rfl; exact rfl) | (apply WD.store1; exact rfl; exact rfl; exact rfl) | (apply WD.new1; exact rfl) | (apply WD.clb; exact rfl; exact rfl; exact rfl; exact rfl; all_goals first | (intro h; exact absurd h (by decide)) | intro _) | (apply WD.cl0; exact rfl; exact rfl; exact rfl; exact rfl) | (apply WD.cl1; exact rfl; exact rfl; exact rfl; exact rfl) | (apply W.condT; exact rfl) | (apply W.condF; exact rfl) | (apply W.cond; exact rfl; all_goals intro _) | (apply WO.gT; exact rfl) | (apply WO.gF; exact rfl) | (apply WO.sT; exact rfl) | (apply WO.sF; exact rfl) | (apply WO.sU; exact rfl) | (apply WO.lss; exact rfl; exact rfl; all_goals first | (intro _; exfalso; omega) | intro _) | (apply WO.gtr; exact rfl; exact rfl; all_goals first | (intro _; exfalso; omega) | intro _) | (apply WO.eql; exact rfl; exact rfl; all_goals first | (intro _; exfalso; omega) | intro _) | (apply WO.neq; exact rfl; exact rfl; all_goals first | (intro _; exfalso; omega) | intro _) | (apply WO.pkT; exact rfl; exact rfl) | (apply WO.pkF; exact rfl; exact rfl) | (apply WO.cll; exact rfl; exact rfl; first | exact C.c18 _ | exact b1 _ | exact b2 _ | exact hD _ | exact hF _ _ rfl | exact hP _ | exact hQ _ | exact hR _ | exact hI1 _ | exact hT _ _ | exact hN _ _ | exact hC _) | (apply WD.cl0; exact rfl; exact rfl; exact rfl; first | exact C.c18 _ | exact b1 _ | exact b2 _ | exact hD _ | exact hF _ _ rfl | exact hP _ | exact hQ _ | exact hR _ | exact hI1 _ | exact hT _ _ | exact hN _ _ | exact hC _) | (apply WO.seql; exact rfl; exact rfl; all_goals first | (intro h; exact absurd h (by decide)) | (intro h; exact absurd rfl h) | (intro h; contradiction) | intro _) | (apply WO.sneq; exact rfl; exact rfl; all_goals first | (intro h; exact absurd h (by decide)) | (intro h; exact absurd rfl h) | (intro h; contradiction) | intro _) | (apply WO.clb; exact rfl; exact rfl; exact rfl; all_goals first | (intro h; exact absurd h (by decide)) | intro _) | (apply WO.cll; exact rfl; exact rfl; exact rfl) | (apply WO.eqM; exact rfl; exact rfl; all_goals first | (intro h; exact absurd ⟨rfl, rfl, rfl⟩ h) | intro _) | (apply WO.hlv; exact rfl; exact rfl; exact rfl) | (apply WO.hpv; exact rfl; exact rfl; exact rfl) | (apply WO.hnv; exact rfl; exact rfl; exact rfl) | (apply WO.pl; exact rfl; exact rfl) | (apply WO.pp; exact rfl; exact rfl)
    · have hf : firstNZ [chk k v r, chk k' v' r'] = chk k v r := by simp [firstNZ, hA]
      have hE : cmpE k v r k' v' r' = chk k v r := by simp [cmpE, firstNZ, hA]
      have hn0 : chk k v r ≠ 0 := hA
      have hD : ∀ h, M.ext 37 [mkM k v r, mkM k' v' r'] h = some ⟨.tup [.int .i64 0, .int .i64 (chk k v r)], h, []⟩ := fun h => by rw [C.c37, hE, if_pos hn0]
      have hI1 : ∀ h, M.ext 38 [.int .i64 0, .int .i64 (chk k v r), .int .i64 (chk k v r), .int .i64 0] h = some ⟨.bool true, h, []⟩ := fun h => by rw [C.c38]; simp [hn0]
      have hC := hP
      have hF : ∀ h x, intsAt h x = some [chk k v r, chk k' v' r'] → M.ext 24 [x] h = some ⟨.int .i64 (chk k v r), h, []⟩ := fun h x hx => by rw [C.c24 x _ h hx (by simp), hf]
      repeat' first | (exact tail5 C k v r k' v' r' c _ _ _ _ _ _ hEnd) | apply W.seq | apply SQn | apply W.region | apply WO.nil | apply W.block | apply W.ret | apply W.exit | apply W.skip | apply SQr | apply SQe | apply BQn | apply BQr | apply BQe | (apply BQo; exact rfl) | apply LQe | apply LQr | (apply W.drawro; exact rfl) | apply W.draw | apply WD.nil | (apply WD.gT; exact rfl) | (apply WD.gF; exact rfl) | (apply WD.sT; exact rfl) | (apply WD.sF; exact rfl) | (apply WD.sU; exact rfl) | (apply WD.pure1; exact rfl) | (apply WD.load1; exact rfl; exact rfl; exact rfl) | (apply WD.store1; exact rfl; exact rfl; exact rfl) | (apply WD.new1; exact rfl) | (apply WD.clb; exact rfl; exact rfl; exact rfl; exact rfl; all_goals first | (intro h; exact absurd h (by decide)) | intro _) | (apply WD.cl0; exact rfl; exact rfl; exact rfl; exact rfl) | (apply WD.cl1; exact rfl; exact rfl; exact rfl; exact rfl) | (apply W.condT; exact rfl) | (apply W.condF; exact rfl) | (apply W.cond; exact rfl; all_goals intro _) | (apply WO.gT; exact rfl) | (apply WO.gF; exact rfl) | (apply WO.sT; exact rfl) | (apply WO.sF; exact rfl) | (apply WO.sU; exact rfl) | (apply WO.lss; exact rfl; exact rfl; all_goals first | (intro _; exfalso; omega) | intro _) | (apply WO.gtr; exact rfl; exact rfl; all_goals first | (intro _; exfalso; omega) | intro _) | (apply WO.eql; exact rfl; exact rfl; all_goals first | (intro _; exfalso; omega) | intro _) | (apply WO.neq; exact rfl; exact rfl; all_goals first | (intro _; exfalso; omega) | intro _) | (apply WO.pkT; exact rfl; exact rfl) | (apply WO.pkF; exact rfl; exact rfl) | (apply WO.cll; exact rfl; exact rfl; first | exact C.c18 _ | exact b1 _ | exact b2 _ | exact hD _ | exact hF _ _ rfl | exact hP _ | exact hQ _ | exact hR _ | exact hI1 _ | exact hT _ _ | exact hN _ _ | exact hC _) | (apply WD.cl0; exact rfl; exact rfl; exact rfl; first | exact C.c18 _ | exact b1 _ | exact b2 _ | exact hD _ | exact hF _ _ rfl | exact hP _ | exact hQ _ | exact hR _ | exact hI1 _ | exact hT _ _ | exact hN _ _ | exact hC _) | (apply WO.seql; exact rfl; exact rfl; all_goals first | (intro h; exact absurd h (by decide)) | (intro h; exact absurd rfl h) | (intro h; contradiction) | intro _) | (apply WO.sneq; exact rfl; exact rfl; all_goals first | (intro h; exact absurd h (by decide)) | (intro h; exact absurd rfl h) | (intro h; contradiction) | intro _) | (apply WO.clb; exact rfl; exact rfl; exact rfl; all_goals first | (intro h; exact absurd h (by decide)) | intro _) | (apply WO.cll; exact rfl; exact rfl; exact rfl) | (apply WO.eqM; exact rfl; exact rfl; all_goals first | (intro h; exact absurd ⟨rfl, rfl, rfl⟩ h) | intro _) | (apply WO.hlv; exact rfl; exact rfl; exact rfl) | (apply WO.hpv; exact rfl; exact rfl; exact rfl) | (apply WO.hnv; exact rfl; exact rfl; exact rfl) | (apply WO.pl; exact rfl; exact rfl) | (apply WO.pp; exact rfl; exact rfl)
  · have hn : decide (k.length ≤ 40 ∧ r.length ≤ 40) = true → decide (k'.length ≤ 40 ∧ r'.length ≤ 40) = true → ¬ (c.length : Int) ≤ 40 := fun e3 e4 hc => hs ⟨of_decide_eq_true e3, of_decide_eq_true e4, hc⟩
    cases e1 : decide (k.length ≤ 40 ∧ r.length ≤ 40) with
    | false =>
      rw [e1] at b1
      repeat' first | apply W.seq | apply SQn | apply W.region | apply WO.nil | apply W.block | apply W.ret | apply W.exit | apply W.skip | apply SQr | apply SQe | apply BQn | apply BQr | apply BQe | (apply BQo; exact rfl) | apply LQe | apply LQr | (apply W.drawro; exact rfl) | apply W.draw | apply WD.nil | (apply WD.gT; exact rfl) | (apply WD.gF; exact rfl) | (apply WD.sT; exact rfl) | (apply WD.sF; exact rfl) | (apply WD.sU; exact rfl) | (apply WD.pure1; exact rfl) | (apply WD.load1; exact rfl; exact rfl; exact rfl) | (apply WD.store1; exact rfl; exact rfl; exact rfl) | (apply WD.new1; exact rfl) | (apply WD.clb; exact rfl; exact rfl; exact rfl; exact rfl; all_goals first | (intro h; exact absurd h (by decide)) | intro _) | (apply WD.cl0; exact rfl; exact rfl; exact rfl; exact rfl) | (apply WD.cl1; exact rfl; exact rfl; exact rfl; exact rfl) | (apply W.condT; exact rfl) | (apply W.condF; exact rfl) | (apply W.cond; exact rfl; all_goals intro _) | (apply WO.gT; exact rfl) | (apply WO.gF; exact rfl) | (apply WO.sT; exact rfl) | (apply WO.sF; exact rfl) | (apply WO.sU; exact rfl) | (apply WO.lss; exact rfl; exact rfl; all_goals first | (intro _; exfalso; omega) | intro _) | (apply WO.gtr; exact rfl; exact rfl; all_goals first | (intro _; exfalso; omega) | intro _) | (apply WO.eql; exact rfl; exact rfl; all_goals first | (intro _; exfalso; omega) | intro _) | (apply WO.neq; exact rfl; exact rfl; all_goals first | (intro _; exfalso; omega) | intro _) | (apply WO.pkT; exact rfl; exact rfl) | (apply WO.pkF; exact rfl; exact rfl) | (apply WO.cll; exact rfl; exact rfl; first | exact C.c18 _ | exact b1 _) | (apply WO.seql; exact rfl; exact rfl; all_goals first | (intro h; exact absurd h (by decide)) | (intro h; exact absurd rfl h) | (intro h; contradiction) | intro _) | (apply WO.sneq; exact rfl; exact rfl; all_goals first | (intro h; exact absurd h (by decide)) | (intro h; exact absurd rfl h) | (intro h; contradiction) | intro _) | (apply WO.clb; exact rfl; exact rfl; exact rfl; all_goals first | (intro h; exact absurd h (by decide)) | intro _) | (apply WO.cll; exact rfl; exact rfl; exact rfl) | (apply WO.eqM; exact rfl; exact rfl; all_goals first | (intro h; exact absurd ⟨rfl, rfl, rfl⟩ h) | intro _) | (apply WO.hlv; exact rfl; exact rfl; exact rfl) | (apply WO.hpv; exact rfl; exact rfl; exact rfl) | (apply WO.hnv; exact rfl; exact rfl; exact rfl) | (apply WO.pl; exact rfl; exact rfl) | (apply WO.pp; exact rfl; exact rfl)
      exact ⟨.inr rfl, rfl, _, rfl, rfl, rfl⟩
    | true =>
      rw [e1] at b1
      cases e2 : decide (k'.length ≤ 40 ∧ r'.length ≤ 40) with
      | false =>
        rw [e2] at b2
        repeat' first | apply W.seq | apply SQn | apply W.region | apply WO.nil | apply W.block | apply W.ret | apply W.exit | apply W.skip | apply SQr | apply SQe | apply BQn | apply BQr | apply BQe | (apply BQo; exact rfl) | apply LQe | apply LQr | (apply W.drawro; exact rfl) | apply W.draw | apply WD.nil | (apply WD.gT; exact rfl) | (apply WD.gF; exact rfl) | (apply WD.sT; exact rfl) | (apply WD.sF; exact rfl) | (apply WD.sU; exact rfl) | (apply WD.pure1; exact rfl) | (apply WD.load1; exact rfl; exact rfl; exact rfl) | (apply WD.store1; exact rfl; exact rfl; exact rfl) | (apply WD.new1; exact rfl) | (apply WD.clb; exact rfl; exact rfl; exact rfl; exact rfl; all_goals first | (intro h; exact absurd h (by decide)) | intro _) | (apply WD.cl0; exact rfl; exact rfl; exact rfl; exact rfl) | (apply WD.cl1; exact rfl; exact rfl; exact rfl; exact rfl) | (apply W.condT; exact rfl) | (apply W.condF; exact rfl) | (apply W.cond; exact rfl; all_goals intro _) | (apply WO.gT; exact rfl) | (apply WO.gF; exact rfl) | (apply WO.sT; exact rfl) | (apply WO.sF; exact rfl) | (apply WO.sU; exact rfl) | (apply WO.lss; exact rfl; exact rfl; all_goals first | (intro _; exfalso; omega) | intro _) | (apply WO.gtr; exact rfl; exact rfl; all_goals first | (intro _; exfalso; omega) | intro _) | (apply WO.eql; exact rfl; exact rfl; all_goals first | (intro _; exfalso; omega) | intro _) | (apply WO.neq; exact rfl; exact rfl; all_goals first | (intro _; exfalso; omega) | intro _) | (apply WO.pkT; exact rfl; exact rfl) | (apply WO.pkF; exact rfl; exact rfl) | (apply WO.cll; exact rfl; exact rfl; first | exact C.c18 _ | exact b1 _ | exact b2 _) | (apply WO.seql; exact rfl; exact rfl; all_goals first | (intro h; exact absurd h (by decide)) | (intro h; exact absurd rfl h) | (intro h; contradiction) | intro _) | (apply WO.sneq; exact rfl; exact rfl; all_goals first | (intro h; exact absurd h (by decide)) | (intro h; exact absurd rfl h) | (intro h; contradiction) | intro _) | (apply WO.clb; exact rfl; exact rfl; exact rfl; all_goals first | (intro h; exact absurd h (by decide)) | intro _) | (apply WO.cll; exact rfl; exact rfl; exact rfl) | (apply WO.eqM; exact rfl; exact rfl; all_goals first | (intro h; exact absurd ⟨rfl, rfl, rfl⟩ h) | intro _) | (apply WO.hlv; exact rfl; exact rfl; exact rfl) | (apply WO.hpv; exact rfl; exact rfl; exact rfl) | (apply WO.hnv; exact rfl; exact rfl; exact rfl) | (apply WO.pl; exact rfl; exact rfl) | (apply WO.pp; exact rfl; exact rfl)
        exact ⟨.inr rfl, rfl, _, rfl, rfl, rfl⟩
      | true =>
        rw [e2] at b2
        have := hn e1 e2
        repeat' first | apply W.seq | apply SQn | apply W.region | apply WO.nil | apply W.block | apply W.ret | apply W.exit | apply W.skip | apply SQr | apply SQe | apply BQn | apply BQr | apply BQe | (apply BQo; exact rfl) | apply LQe | apply LQr | (apply W.drawro; exact rfl) | apply W.draw | apply WD.nil | (apply WD.gT; exact rfl) | (apply WD.gF; exact rfl) | (apply WD.sT; exact rfl) | (apply WD.sF; exact rfl) | (apply WD.sU; exact rfl) | (apply WD.pure1; exact rfl) | (apply WD.load1; exact rfl; exact rfl; exact rfl) | (apply WD.store1; exact rfl; exact rfl; exact rfl) | (apply WD.new1; exact rfl) | (apply WD.clb; exact rfl; exact rfl; exact rfl; exact rfl; all_goals first | (intro h; exact absurd h (by decide)) | intro _) | (apply WD.cl0; exact rfl; exact rfl; exact rfl; exact rfl) | (apply WD.cl1; exact rfl; exact rfl; exact rfl; exact rfl) | (apply W.condT; exact rfl) | (apply W.condF; exact rfl) | (apply W.cond; exact rfl; all_goals intro _) | (apply WO.gT; exact rfl) | (apply WO.gF; exact rfl) | (apply WO.sT; exact rfl) | (apply WO.sF; exact rfl) | (apply WO.sU; exact rfl) | (apply WO.lss; exact rfl; exact rfl; all_goals first | (intro _; exfalso; omega) | intro _) | (apply WO.gtr; exact rfl; exact rfl; all_goals first | (intro _; exfalso; omega) | intro _) | (apply WO.eql; exact rfl; exact rfl; all_goals first | (intro _; exfalso; omega) | intro _) | (apply WO.neq; exact rfl; exact rfl; all_goals first | (intro _; exfalso; omega) | intro _) | (apply WO.pkT; exact rfl; exact rfl) | (apply WO.pkF; exact rfl; exact rfl) | (apply WO.cll; exact rfl; exact rfl; first | exact C.c18 _ | exact b1 _ | exact b2 _) | (apply WO.seql; exact rfl; exact rfl; all_goals first | (intro h; exact absurd h (by decide)) | (intro h; exact absurd rfl h) | (intro h; contradiction) | intro _) | (apply WO.sneq; exact rfl; exact rfl; all_goals first | (intro h; exact absurd h (by decide)) | (intro h; exact absurd rfl h) | (intro h; contradiction) | intro _) | (apply WO.clb; exact rfl; exact rfl; exact rfl; all_goals first | (intro h; exact absurd h (by decide)) | intro _) | (apply WO.cll; exact rfl; exact rfl; exact rfl) | (apply WO.eqM; exact rfl; exact rfl; all_goals first | (intro h; exact absurd ⟨rfl, rfl, rfl⟩ h) | intro _) | (apply WO.hlv; exact rfl; exact rfl; exact rfl) | (apply WO.hpv; exact rfl; exact rfl; exact rfl) | (apply WO.hnv; exact rfl; exact rfl; exact rfl) | (apply WO.pl; exact rfl; exact rfl) | (apply WO.pp; exact rfl; exact rfl)
        exact ⟨.inr rfl, rfl, _, rfl, rfl, rfl⟩
end Go.Ab.Ch1


/-
  Own work: the contracts of marks as a table.
-/
namespace Go.Ab
variable {ks : List Nat} {N : Nat}
theorem Rn.aggL {l l0 : List AV} (h : RnL ks N l l0) : Rn ks N (.agg l) (.agg l0) := .agg h.1 h.2
end Go.Ab
namespace Go.Ab.Ch1
open Go.Proofs

theorem index185 : SpecOK Tryz.prog gl 185 specIndex := by
  intro xs h r hq
  unfold specIndex at hq
  split at hq
  · split at hq
    · rename_i l hl
      split at hq
      · rename_i hlen
        cases hq
        obtain ⟨S, cap, hf⟩ := (strsAt_sl hl).fr (fun _ => rfl)
        exact ent_run0 seat tab_nil (w185 (T := []) rfl l _ cap hlen) (.cons hf (.cons (.same rfl) .nil)) rfl (.inr rfl)
      · cases hq
    · cases hq
  · cases hq
theorem contains116 : SpecOK Tryz.prog gl 116 specContains := by
  intro xs h r hq
  unfold specContains at hq
  split at hq
  · split at hq
    · rename_i l hl
      split at hq
      · rename_i hlen
        cases hq
        obtain ⟨S, cap, hf⟩ := (strsAt_sl hl).fr (fun _ => rfl)
        exact ent_run0 seat (tab_cons index185 tab_nil) (w116 (T := []) rfl l _ cap hlen) (.cons hf (.cons (.same rfl) .nil)) rfl (.inr rfl)
      · cases hq
    · cases hq
  · cases hq
theorem reason112 : SpecOK Tryz.prog gl 112 specReason := by
  intro xs h r hq
  unfold specReason at hq
  split at hq
  · cases hq; exact ent_run0 seat (tab_cons contains116 tab_nil) (w112 (T := []) rfl _) (FrL.same rfl) rfl (.inl rfl)
  · cases hq
theorem reason109 : SpecOK Tryz.prog gl 109 specReason := by
  intro xs h r hq
  unfold specReason at hq
  split at hq
  · cases hq; exact ent_run0 seat tab_nil (w109 (T := []) rfl _) (FrL.same rfl) rfl (.inl rfl)
  · cases hq
theorem kinds113 : SpecOK Tryz.prog gl 113 specKinds := by
  intro xs h r hq
  unfold specKinds at hq
  split at hq
  · cases hq
    have hk : ∀ (i b : Nat), ([0, 1, 2, 3] : List Nat)[i]? = some b → Rn [0, 1, 2, 3] h.length (.map b) (.map (h.length + i)) := fun i b hi => .map hi
    refine ent_run seat tab_nil (w113 (T := []) rfl) (FrL.nil (S := [])) (ks := [0, 1, 2, 3]) (by decide) (.map (i := 0) rfl) rfl (fun i b o1 hi ho => ?_) (.inl rfl)
    match i, hi, ho with
    | 0, hi, ho =>
      cases hi; cases ho
      refine ⟨_, rfl, .map (.same rfl) ?_, .inl rfl⟩
      refine .cons (.aggL (.cons (.same rfl) (.cons (.same rfl) (.cons (.same rfl) (.cons (hk 1 1 rfl) (.cons (.same rfl) .nil)))))) (.cons (.aggL (.cons (.same rfl) (.cons (.same rfl) (.cons (.same rfl) (.cons (hk 2 2 rfl) (.cons (.same rfl) .nil)))))) (.cons (.aggL (.cons (.same rfl) (.cons (.same rfl) (.cons (.same rfl) (.cons (hk 3 3 rfl) (.cons (.same rfl) .nil)))))) .nil))
    | 1, hi, ho => cases hi; cases ho; exact ⟨_, rfl, .map (.same rfl) (.same rfl), .inl rfl⟩
    | 2, hi, ho => cases hi; cases ho; exact ⟨_, rfl, .map (.same rfl) (.same rfl), .inl rfl⟩
    | 3, hi, ho => cases hi; cases ho; exact ⟨_, rfl, .map (.same rfl) (.same rfl), .inl rfl⟩
  · cases hq
theorem out95 : SpecOK Tryz.prog gl 95 specOut := s95_ok

theorem chk36 : SpecOK Tryz.prog gl 36 specChk := by
  intro xs h r hq
  unfold specChk at hq
  split at hq
  · cases hq; exact ent_run0 seat (tab_cons kinds113 (tab_cons reason112 (tab_cons when97 (tab_cons first96 (tab_cons out95 tab_nil))))) (w36 rfl _ _ _) (FrL.same rfl) rfl (.inl rfl)
  · cases hq
theorem least110 : SpecOK Tryz.prog gl 110 (fun
  | [.str k], h => some ⟨.int .i64 (kLeast k), h, []⟩
  | _, _ => none) := by
  intro xs h r hq
  dsimp only at hq
  split at hq
  · cases hq; exact ent_run0 seat tab_nil (w110 (T := []) rfl _) (FrL.same rfl) rfl (.inl rfl)
  · cases hq
theorem most111 : SpecOK Tryz.prog gl 111 specMost := by
  intro xs h r hq
  unfold specMost at hq
  split at hq
  · cases hq; exact ent_run0 seat tab_nil (w111 (T := []) rfl _) (FrL.same rfl) rfl (.inl rfl)
  · cases hq
theorem chk35 : SpecOK Tryz.prog gl 35 specChk := by
  intro xs h r hq
  unfold specChk at hq
  split at hq
  · cases hq; exact ent_run0 seat (tab_cons reason109 (tab_cons least110 (tab_cons most111 tab_nil))) (w35 rfl _ _ _) (FrL.same rfl) rfl (.inl rfl)
  · cases hq
theorem worth184 : SpecOK Tryz.prog gl 184 specWorth := by
  intro xs h r hq
  unfold specWorth at hq
  split at hq
  · cases hq; exact ent_run0 seat (tab_cons kinds113 tab_nil) (w184 rfl _ _ _) (FrL.same rfl) rfl (.inl rfl)
  · cases hq
theorem cmp115 : SpecOK Tryz.prog gl 115 specCmp := by
  intro xs h r hq
  unfold specCmp at hq
  split at hq
  · cases hq; exact ent_run0 seat (tab_cons worth184 tab_nil) (w115 rfl _ _ _ _ _ _) (FrL.same rfl) rfl (.inl rfl)
  · cases hq
theorem differ114 : SpecOK Tryz.prog gl 114 specDiffer := by
  intro xs h r hq
  unfold specDiffer at hq
  split at hq
  · cases hq; exact ent_run0 seat tab_nil (w114 (T := []) rfl _ _ _ _ _ _) (FrL.same rfl) rfl (.inl rfl)
  · cases hq
theorem compare37 : SpecOK Tryz.prog gl 37 specCompare := by
  intro xs h r hq
  unfold specCompare at hq
  split at hq
  · cases hq; exact ent_run0 seat (tab_cons chk36 (tab_cons differ114 (tab_cons when97 (tab_cons first96 (tab_cons cmp115 tab_nil))))) (w37 rfl _ _ _ _ _ _) (FrL.same rfl) rfl (.inl rfl)
  · cases hq
theorem round40 : SpecOK Tryz.prog gl 40 specRound := by
  intro xs h r hq
  unfold specRound at hq
  split at hq
  · cases hq; exact ent_run0 seat (tab_cons chk36 (tab_cons contains116 (tab_cons kinds113 tab_nil))) (w40 rfl _ _ _ _) (FrL.same rfl) rfl (.inl rfl)
  · cases hq
theorem step69 : SpecOK Tryz.prog gl 69 specStep := by
  intro xs h r hq
  unfold specStep at hq
  split at hq
  · cases hq; exact ent_run0 seat tab_nil (w69 (T := []) rfl _) (FrL.same rfl) rfl (.inl rfl)
  · cases hq
theorem refRound41 : SpecOK Tryz.prog gl 41 specRefRound := by
  intro xs h r hq
  unfold specRefRound at hq
  split at hq
  · split at hq
    · rename_i hc
      cases hq; exact ent_run0 seat (tab_cons step69 (tab_cons most111 tab_nil)) (w41 rfl _ _ _ _ hc) (FrL.same rfl) rfl (.inl rfl)
    · cases hq
  · cases hq
theorem wind42 : SpecOK Tryz.prog gl 42 specWind := by
  intro xs h r hq
  unfold specWind at hq
  split at hq
  · cases hq; exact ent_run0 seat (tab_cons out95 tab_nil) (w42 rfl _) (FrL.same rfl) rfl (.inl rfl)
  · cases hq
theorem refWind43 : SpecOK Tryz.prog gl 43 specRefWind := by
  intro xs h r hq
  unfold specRefWind at hq
  split at hq
  · split at hq
    · rename_i hc
      cases hq; exact ent_run0 seat tab_nil (w43 (T := []) rfl _ hc.1 hc.2) (FrL.same rfl) rfl (.inl rfl)
    · cases hq
  · cases hq
theorem refCmp39 : SpecOK Tryz.prog gl 39 specRefCmp := by
  intro xs h r hq
  unfold specRefCmp at hq
  split at hq
  · split at hq
    · rename_i hc
      cases hq; exact ent_run0 seat tab_nil (w39 (T := []) rfl _ _ _ _ _ _ hc.1 hc.2.1 hc.2.2) (FrL.same rfl) rfl (.inl rfl)
    · cases hq
  · cases hq
theorem brief34 : SpecOK Tryz.prog gl 34 specBrief := by
  intro xs h r hq
  unfold specBrief at hq
  split at hq
  · cases hq; exact ent_run0 seat tab_nil (w34 (T := []) rfl _ _ _) (FrL.same rfl) rfl (.inl rfl)
  · cases hq
theorem integer38 : SpecOK Tryz.prog gl 38 specInteger := by
  intro xs h r hq
  unfold specInteger at hq
  split at hq
  · cases hq; exact ent_run0 seat tab_nil (w38 (T := []) rfl _ _ _ _) (FrL.same rfl) rfl (.inl rfl)
  · cases hq
theorem awake18 : SpecOK Tryz.prog gl 18 specAwake := by
  intro xs h r hq
  unfold specAwake at hq
  split at hq
  · exact s18_ok _ _ _ hq
  · cases hq
theorem TMarks_ok : ExtOK Tryz.prog gl (extS TMarks) :=
  tab_cons awake18 (tab_cons brief34 (tab_cons chk35 (tab_cons chk36 (tab_cons compare37 (tab_cons first24 (tab_cons when25 (tab_cons integer38 (tab_cons refCmp39 (tab_cons round40 (tab_cons refRound41 (tab_cons wind42 (tab_cons refWind43 (tab_cons step69 tab_nil)))))))))))))
theorem calls5 : Calls5 (mach Tryz.prog FT TMarks) where
  c18 _ := by rw [mach_ext]; rfl
  c34 _ _ _ _ := by rw [mach_ext]; rfl
  c35 _ _ _ _ := by rw [mach_ext]; rfl
  c36 _ _ _ _ := by rw [mach_ext]; rfl
  c37 _ _ _ _ _ _ _ := by rw [mach_ext]; rfl
  c24 x l h hx hl := by
    rw [mach_ext]
    show specFirst [x] h = _
    simp only [specFirst, hx, if_pos hl]
  c25 _ _ _ := by rw [mach_ext]; rfl
  c38 _ _ _ _ _ := by rw [mach_ext]; rfl
  c39 k v r k' v' r' h h1 h2 h3 := by
    rw [mach_ext]
    show specRefCmp [mkM k v r, mkM k' v' r'] h = _
    show (if _ then _ else _) = _
    rw [if_pos ⟨h1, h2, h3⟩]
  c40 _ _ _ _ _ := by rw [mach_ext]; rfl
  c41 k v r c h h1 := by
    rw [mach_ext]
    show specRefRound [mkM k v r, .str c] h = _
    show (if _ then _ else _) = _
    rw [if_pos h1]
  c42 _ _ := by rw [mach_ext]; rfl
  c43 n h h1 h2 := by
    rw [mach_ext]
    show specRefWind [.int .i64 n] h = _
    show (if _ then _ else _) = _
    rw [if_pos ⟨h1, h2⟩]
end Go.Ab.Ch1

