/-
  Own work: the fixed examples of chapter 1 hold: awake's contract.
-/
import Derived.Test.YtcjphdmkgmkabaaGreatDoorCh1E7
namespace Go.Ab.Ch1
set_option maxRecDepth 1000000
open Go.Proofs.Tryz

theorem mixed : prog.follows .mixedOrders = true := by kernel_rfl

theorem noNum : (prog.funcs.toList.all fun fn => !(fn.name == "runtime.NumGoroutine")) = true := by kernel_rfl

theorem ftOK : FTOK prog gl FT := by
  intro f fi h
  unfold FT ftab at h
  split at h
  · rename_i fn p h1 h2
    refine ⟨fn, p, h1, ?_, h⟩
    have hm : fn ∈ prog.funcs.toList := by
      have := Array.mem_of_getElem? h1
      simpa using this
    have := List.all_eq_true.1 noNum fn hm
    simpa using this
  · cases h

theorem x275 : XOK prog 275 .add64 := ⟨⟨_, rfl, by kernel_rfl, by kernel_rfl, by kernel_rfl, by kernel_rfl⟩⟩
theorem x277 : XOK prog 277 .sub64 := ⟨⟨_, rfl, by kernel_rfl, by kernel_rfl, by kernel_rfl, by kernel_rfl⟩⟩
theorem x312 : XOK prog 312 .index := ⟨⟨_, rfl, by kernel_rfl, by kernel_rfl, by kernel_rfl, by kernel_rfl⟩⟩
theorem x329 : XOK prog 329 .count := ⟨⟨_, rfl, by kernel_rfl, by kernel_rfl, by kernel_rfl, by kernel_rfl⟩⟩

theorem xOK : ExtOK prog gl (extN XN) := by
  refine extN_ok ?_
  intro p hp
  simp only [XN, List.mem_cons, List.not_mem_nil, or_false] at hp
  rcases hp with rfl | rfl | rfl | rfl
  · exact x275
  · exact x277
  · exact x312
  · exact x329

theorem forall_nil {α : Type} {p : α → Prop} : ∀ x ∈ ([] : List α), p x := by simp
theorem forall_cons {α : Type} {p : α → Prop} {e : α} {l : List α} (h : p e) (hl : ∀ x ∈ l, p x) : ∀ x ∈ e :: l, p x := by
  intro x hx
  rcases List.mem_cons.1 hx with rfl | hx
  · exact h
  · exact hl x hx

theorem shown_ok {T : List EntH} (hT : ∀ e ∈ T, EntHOK prog gl e) {e : EntH} (h : Shown T e) : EntHOK prog gl e :=
  entH_ok (callWith_ok (eval_ok mixed (extH_ok hT xOK) ftOK 100000) (extH_ok hT xOK) ftOK) h

theorem o0 : EntHOK prog gl e0 := shown_ok (T := T0) (forall_nil) h0
theorem o1 : EntHOK prog gl e1 := shown_ok (T := T1) (forall_cons o0 (forall_nil)) h1
theorem o2 : EntHOK prog gl e2 := shown_ok (T := T2) (forall_cons o0 (forall_cons o1 (forall_nil))) h2
theorem o3 : EntHOK prog gl e3 := shown_ok (T := T3) (forall_cons o0 (forall_cons o1 (forall_cons o2 (forall_nil)))) h3
theorem o4 : EntHOK prog gl e4 := shown_ok (T := T4) (forall_cons o0 (forall_cons o1 (forall_cons o2 (forall_cons o3 (forall_nil))))) h4
theorem o5 : EntHOK prog gl e5 := shown_ok (T := T5) (forall_cons o0 (forall_cons o1 (forall_cons o2 (forall_cons o3 (forall_cons o4 (forall_nil)))))) h5
theorem o6 : EntHOK prog gl e6 := shown_ok (T := T6) (forall_cons o0 (forall_cons o1 (forall_cons o2 (forall_cons o3 (forall_cons o4 (forall_cons o5 (forall_nil))))))) h6
theorem o7 : EntHOK prog gl e7 := shown_ok (T := T7) (forall_cons o0 (forall_cons o1 (forall_cons o2 (forall_cons o3 (forall_cons o4 (forall_cons o5 (forall_cons o6 (forall_nil)))))))) h7
theorem o8 : EntHOK prog gl e8 := shown_ok (T := T8) (forall_cons o0 (forall_cons o1 (forall_cons o2 (forall_cons o3 (forall_cons o4 (forall_cons o5 (forall_cons o6 (forall_cons o7 (forall_nil))))))))) h8
theorem o9 : EntHOK prog gl e9 := shown_ok (T := T9) (forall_cons o0 (forall_cons o1 (forall_cons o2 (forall_cons o3 (forall_cons o4 (forall_cons o5 (forall_cons o6 (forall_cons o7 (forall_cons o8 (forall_nil)))))))))) h9
theorem o10 : EntHOK prog gl e10 := shown_ok (T := T10) (forall_cons o0 (forall_cons o1 (forall_cons o2 (forall_cons o3 (forall_cons o4 (forall_cons o5 (forall_cons o6 (forall_cons o7 (forall_cons o8 (forall_cons o9 (forall_nil))))))))))) h10
theorem o11 : EntHOK prog gl e11 := shown_ok (T := T11) (forall_cons o0 (forall_cons o1 (forall_cons o2 (forall_cons o3 (forall_cons o4 (forall_cons o5 (forall_cons o6 (forall_cons o7 (forall_cons o8 (forall_cons o9 (forall_cons o10 (forall_nil)))))))))))) h11
theorem o12 : EntHOK prog gl e12 := shown_ok (T := T12) (forall_cons o0 (forall_cons o1 (forall_cons o2 (forall_cons o3 (forall_cons o4 (forall_cons o5 (forall_cons o6 (forall_cons o7 (forall_cons o8 (forall_cons o9 (forall_cons o10 (forall_cons o11 (forall_nil))))))))))))) h12
theorem o13 : EntHOK prog gl e13 := shown_ok (T := T13) (forall_cons o0 (forall_cons o1 (forall_cons o2 (forall_cons o3 (forall_cons o4 (forall_cons o5 (forall_cons o6 (forall_cons o7 (forall_cons o8 (forall_cons o9 (forall_cons o10 (forall_cons o11 (forall_cons o12 (forall_nil)))))))))))))) h13
theorem o14 : EntHOK prog gl e14 := shown_ok (T := T14) (forall_cons o0 (forall_cons o1 (forall_cons o2 (forall_cons o3 (forall_cons o4 (forall_cons o5 (forall_cons o6 (forall_cons o7 (forall_cons o8 (forall_cons o9 (forall_cons o10 (forall_cons o11 (forall_cons o12 (forall_cons o13 (forall_nil))))))))))))))) h14
theorem o15 : EntHOK prog gl e15 := shown_ok (T := T15) (forall_cons o0 (forall_cons o1 (forall_cons o2 (forall_cons o3 (forall_cons o4 (forall_cons o5 (forall_cons o6 (forall_cons o7 (forall_cons o8 (forall_cons o9 (forall_cons o10 (forall_cons o11 (forall_cons o12 (forall_cons o13 (forall_cons o14 (forall_nil)))))))))))))))) h15
theorem o16 : EntHOK prog gl e16 := shown_ok (T := T16) (forall_cons o0 (forall_cons o1 (forall_cons o2 (forall_cons o3 (forall_cons o4 (forall_cons o5 (forall_cons o6 (forall_cons o7 (forall_cons o8 (forall_cons o9 (forall_cons o10 (forall_cons o11 (forall_cons o12 (forall_cons o13 (forall_cons o14 (forall_cons o15 (forall_nil))))))))))))))))) h16
theorem o17 : EntHOK prog gl e17 := shown_ok (T := T17) (forall_cons o0 (forall_cons o1 (forall_cons o2 (forall_cons o3 (forall_cons o4 (forall_cons o5 (forall_cons o6 (forall_cons o7 (forall_cons o8 (forall_cons o9 (forall_cons o10 (forall_cons o11 (forall_cons o12 (forall_cons o13 (forall_cons o14 (forall_cons o15 (forall_cons o16 (forall_nil)))))))))))))))))) h17
theorem o18 : EntHOK prog gl e18 := shown_ok (T := T18) (forall_cons o0 (forall_cons o1 (forall_cons o2 (forall_cons o3 (forall_cons o4 (forall_cons o5 (forall_cons o6 (forall_cons o7 (forall_cons o8 (forall_cons o9 (forall_cons o10 (forall_cons o11 (forall_cons o12 (forall_cons o13 (forall_cons o14 (forall_cons o15 (forall_cons o16 (forall_cons o17 (forall_nil))))))))))))))))))) h18
theorem o19 : EntHOK prog gl e19 := shown_ok (T := T19) (forall_cons o0 (forall_cons o1 (forall_cons o2 (forall_cons o3 (forall_cons o4 (forall_cons o5 (forall_cons o6 (forall_cons o7 (forall_cons o8 (forall_cons o9 (forall_cons o10 (forall_cons o11 (forall_cons o12 (forall_cons o13 (forall_cons o14 (forall_cons o15 (forall_cons o16 (forall_cons o17 (forall_cons o18 (forall_nil)))))))))))))))))))) h19
theorem o20 : EntHOK prog gl e20 := shown_ok (T := T20) (forall_cons o0 (forall_cons o1 (forall_cons o2 (forall_cons o3 (forall_cons o4 (forall_cons o5 (forall_cons o6 (forall_cons o7 (forall_cons o8 (forall_cons o9 (forall_cons o10 (forall_cons o11 (forall_cons o12 (forall_cons o13 (forall_cons o14 (forall_cons o15 (forall_cons o16 (forall_cons o17 (forall_cons o18 (forall_cons o19 (forall_nil))))))))))))))))))))) h20
theorem o21 : EntHOK prog gl e21 := shown_ok (T := T21) (forall_cons o0 (forall_cons o1 (forall_cons o2 (forall_cons o3 (forall_cons o4 (forall_cons o5 (forall_cons o6 (forall_cons o7 (forall_cons o8 (forall_cons o9 (forall_cons o10 (forall_cons o11 (forall_cons o12 (forall_cons o13 (forall_cons o14 (forall_cons o15 (forall_cons o16 (forall_cons o17 (forall_cons o18 (forall_cons o19 (forall_cons o20 (forall_nil)))))))))))))))))))))) h21
theorem o22 : EntHOK prog gl e22 := shown_ok (T := T22) (forall_cons o0 (forall_cons o1 (forall_cons o2 (forall_cons o3 (forall_cons o4 (forall_cons o5 (forall_cons o6 (forall_cons o7 (forall_cons o8 (forall_cons o9 (forall_cons o10 (forall_cons o11 (forall_cons o12 (forall_cons o13 (forall_cons o14 (forall_cons o15 (forall_cons o16 (forall_cons o17 (forall_cons o18 (forall_cons o19 (forall_cons o20 (forall_cons o21 (forall_nil))))))))))))))))))))))) h22

end Go.Ab.Ch1

