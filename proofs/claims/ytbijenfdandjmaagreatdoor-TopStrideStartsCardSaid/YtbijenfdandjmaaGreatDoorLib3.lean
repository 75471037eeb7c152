/-
  Own work: the program of the seat on the abstract machine: the slots that live on, the laid variables, the table of functions.
-/
import Derived.Test.YtbijenfdandjmaaGreatDoorLib1
import Derived.Test.YtbijenfdandjmaaGreatDoorProg
import Derived.KernelRfl
namespace Go.Ab.T5
set_option maxRecDepth 1000000
def persTab : List (List Nat) := [
  [],
  [],
  [],
  [0, 1, 2, 6, 7, 8, 9, 10, 11, 12, 13, 14, 15, 16, 17, 18, 19, 84, 85, 86],
  [0, 1, 2, 6, 7],
  [0, 1, 2, 3, 4, 5, 6, 7, 8, 9, 10, 11, 12, 13],
  [0, 1, 2, 5, 6, 7, 8, 9, 10],
  [0, 2, 3, 4, 5, 6, 7, 8, 22, 23, 24],
  [0, 1, 2, 3, 4, 5, 6],
  [0, 1, 4, 5],
  [0, 1, 4, 5, 7, 8],
  [0, 1, 2, 6],
  [0, 1],
  [0, 1, 2, 3, 4, 5, 8, 9, 10, 11, 12, 13, 24, 25],
  [0, 2, 3, 4],
  [0, 1, 2, 4, 5, 6, 7, 8, 9, 10],
  [0, 1, 2, 3, 4],
  [0, 1, 2, 6, 7, 8, 9, 10, 11],
  [0, 1, 4],
  [0, 2],
  [0, 2, 4, 5, 6, 7],
  [0, 1, 4],
  [0, 1, 2, 6],
  [0, 1, 4, 5, 7, 8],
  [0, 1, 3],
  [0, 2],
  [0, 2, 4, 5, 6, 7],
  [0, 1, 2, 3, 4],
  [0, 1, 4],
  [0, 1, 2, 3, 4],
  [0, 1, 2, 3, 4, 5, 6],
  [0, 1, 2, 3, 4, 6, 7, 8, 9, 10, 11, 12, 13, 14, 15, 16, 31, 32, 66, 67],
  [0, 2, 3, 5, 7, 8, 14, 15, 16, 23, 24, 25],
  [0, 2, 3, 4, 5, 7, 11, 12, 13, 24, 25, 26],
  [0, 1, 4],
  [0],
  [0, 1, 2, 6],
  [0, 1, 2, 6, 7, 8, 10, 11, 12, 13, 14, 15, 16, 17, 22, 23, 24, 58, 59, 60],
  [0, 2],
  [0, 1, 2, 6],
  [0, 1, 2, 3, 4],
  [0, 1, 2, 3, 5, 6, 26, 27, 28],
  [0, 1, 2],
  [0, 2, 4],
  [0, 1, 2],
  [0, 1, 2, 3, 4, 5, 6, 7, 9, 10, 11, 17, 18],
  [0, 1, 2, 4],
  [0, 1, 2],
  [0, 1, 2, 4, 5, 6],
  [0, 1],
  [0, 1, 2, 3, 4],
  [0, 1, 4, 5, 6],
  [0, 1, 4, 5],
  [0, 2, 4, 5, 6, 7],
  [0, 1, 2],
  [0, 1, 2],
  [0, 1, 4, 5, 7, 8],
  [0, 2, 3, 4, 5, 6, 7],
  [0, 2, 3, 4],
  [0, 2],
  [0, 2],
  [0, 1, 2, 6],
  [0, 2],
  [0, 1, 4, 5, 6],
  [0, 2, 3, 4, 5],
  [0, 1, 2, 4],
  [0, 1, 2, 3, 4],
  [0, 2],
  [0, 1, 2],
  [0, 1, 2, 3],
  [0, 1, 2, 6, 7, 8, 9],
  [0, 2],
  [0, 1, 4],
  [0, 2, 3, 4, 5, 7, 8],
  [0, 1, 4, 5],
  [0, 2],
  [0, 1, 4],
  [0, 2],
  [0, 2, 3, 4, 5, 6, 7, 8, 9, 10],
  [0, 1, 2],
  [0, 1, 4, 5, 6],
  [0, 1, 2],
  [0, 2, 3, 4, 5, 6],
  [0, 1, 2, 3, 4],
  [0, 1, 2, 3, 4],
  [0, 1, 2, 3, 4, 5, 6, 7, 8, 9, 10],
  [0, 1, 2, 3, 4],
  [0, 2],
  [0, 1, 2],
  [0, 1, 2, 3],
  [0, 1, 2, 3, 4],
  [0, 1, 2, 3, 8, 9],
  [0, 1, 2, 3, 4, 10, 11, 12, 13, 14, 15, 16, 17, 18, 19, 20, 21, 22, 23, 24],
  [0, 1, 4, 5, 6, 7, 8, 9, 10, 11, 42, 43],
  [0, 1, 4, 5, 6, 7, 9],
  [0, 1, 4],
  [0, 1, 4, 5],
  [0, 2],
  [0, 1, 2, 3, 4, 6],
  [0, 1, 2],
  [0, 1, 4, 5, 6, 7],
  [0, 1, 4],
  [0, 1, 4],
  [0, 2, 3, 4, 5],
  [0, 1, 2, 4, 5],
  [0, 1, 2, 3, 4, 5, 6, 7, 8, 9],
  [0, 1, 2],
  [0, 1, 2, 3, 4, 5],
  [0, 1, 4, 5, 6, 7, 8, 9, 10, 11, 12, 13],
  [0, 2],
  [0, 1, 2, 3],
  [0, 1, 4],
  [0, 1, 4, 5, 6, 7, 8, 9, 10, 11, 12, 13, 20, 21, 22, 27, 28, 29],
  [0, 1, 2, 3, 4],
  [0, 1, 2, 3, 4, 5, 6, 7, 8, 9, 11, 12, 13, 14, 15],
  [0, 1, 2, 3, 4, 10, 11],
  [0, 1, 4, 5, 6, 7, 8, 9],
  [0, 1],
  [0, 1, 4, 5],
  [0, 2],
  [0, 2],
  [0, 2],
  [0, 2, 3],
  [0, 1, 4, 5, 6, 7, 8, 9, 10, 11, 12, 13, 14, 15, 16],
  [0, 1, 2, 3, 4, 10, 11, 12, 13, 14, 15, 16, 17, 18],
  [0, 1, 2, 6, 7, 8, 10, 11],
  [0, 1, 4, 5],
  [0, 2],
  [0, 1, 2],
  [0, 1, 4, 5, 6, 7, 8, 9, 10, 11, 12, 13],
  [0, 1, 4],
  [0, 1, 4],
  [0, 2, 3, 4, 5, 6, 8, 9, 10, 47, 48, 49],
  [0, 1, 2, 3, 4, 10, 11],
  [0, 1, 4, 5, 6, 7, 8, 21, 22],
  [0, 1, 4, 5],
  [0, 1, 4, 5, 6, 7, 8, 13, 14],
  [0, 1, 2, 3, 4, 5],
  [],
  [0, 2, 3],
  [0, 1, 4, 5, 6, 7, 8, 9, 10, 11, 12, 13, 14, 15, 96, 97],
  [0, 1, 2, 3, 4, 10],
  [0, 1, 4, 5, 6],
  [0],
  [0, 1, 4],
  [0, 2],
  [0, 2],
  [0, 2],
  [0, 2],
  [0, 2],
  [0, 1, 4, 5, 6],
  [0, 1, 4],
  [],
  [0, 2],
  [0, 1, 4, 5, 6, 7, 8, 9, 10],
  [0, 1, 2, 6, 7, 8, 9, 10, 11, 16],
  [0, 1, 4],
  [0, 1, 4],
  [0, 1, 2, 6],
  [0, 1, 2, 6],
  [],
  [0, 1, 2, 6, 7, 8, 9, 10, 11, 12, 13, 14, 15, 16, 17, 18],
  [0, 2],
  [0, 1, 4, 5, 6, 7, 12, 13, 14],
  [0, 1, 4, 5, 6, 7, 8, 9, 10, 11, 12, 13, 14, 15, 16, 17, 18, 104, 105, 156, 157],
  [],
  [],
  [0, 2],
  [0, 2],
  [0, 1, 4],
  [0, 1, 4],
  [0, 2, 3, 4, 5],
  [0, 1, 4],
  [0, 1, 4],
  [0, 1, 4, 5, 6],
  [0, 1, 4, 5, 6],
  [],
  [0, 2, 3, 4, 5, 6, 7, 8],
  [0, 1, 2, 6, 7, 8, 9, 10, 11, 12, 13, 15, 16, 17, 85, 99, 100, 101],
  [0, 2, 3],
  [0, 2],
  [0, 1, 4],
  [0, 2, 3],
  [0, 1, 4],
  [0, 2, 3, 4, 5, 6],
  [0, 2],
  [0, 2, 3, 4, 5],
  [0, 2, 3, 4, 5, 6, 7, 8, 9, 10, 11, 12],
  [0, 1, 4, 5, 6, 7, 8, 9, 10, 11, 12, 13, 14, 15, 16, 175, 176],
  [0, 2],
  [0, 1, 4],
  [0, 2],
  [],
  [],
  [],
  [],
  [],
  [],
  [],
  [],
  [],
  [],
  [],
  [],
  [],
  [],
  [],
  [],
  [],
  [],
  [],
  [],
  [],
  [],
  [],
  [],
  [],
  [],
  [],
  [],
  [],
  [],
  [],
  [],
  []]

def gl : Nat → Option AV := fun g => if Nat.beq g 0 then some (.vp [.int .u64 1, .int .u64 10, .int .u64 100, .int .u64 1000, .int .u64 10000, .int .u64 100000, .int .u64 1000000, .int .u64 10000000, .int .u64 100000000, .int .u64 1000000000, .int .u64 10000000000, .int .u64 100000000000, .int .u64 1000000000000, .int .u64 10000000000000, .int .u64 100000000000000, .int .u64 1000000000000000, .int .u64 10000000000000000, .int .u64 100000000000000000, .int .u64 1000000000000000000, .int .u64 10000000000000000000]) else none
def XN : List (Nat × XK) := [(138, .add64), (160, .sub64), (176, .index), (165, .same)]
noncomputable def FT : FuncId → Option IFunc := ftab Go.Proofs.Tryz.prog gl persTab
noncomputable def cl (T : List EntH) : CallF := callWith (evalC (extH T (extN XN)) (invP Go.Proofs.Tryz.prog) FT 100000) (extH T (extN XN)) FT
/-- An entry holds when the ones before it are at hand. -/
def Shown (T : List EntH) (e : EntH) : Prop := isRH e.r (cl T (.fn (.func e.f) [] []) e.as e.h) = true
end Go.Ab.T5


/-
  Own work: pieces of the evaluation of the fixed examples.
-/
namespace Go.Ab.T5
set_option maxRecDepth 1000000
def e0 : EntH := ⟨41, [.agg [.int .i64 (3), .sl 2 0 6 1 (some 6)]], [none, none, some (.cells [.str [46, 46, 46], .str [46, 97, 46], .str [97, 65, 46], .str [46, 65, 98], .str [46, 66, 66], .str [46, 66, 66]] 9), none, none, none, none, none, none], ⟨.int .i64 (0), [none, none, some (.cells [.str [46, 46, 46], .str [46, 97, 46], .str [97, 65, 46], .str [46, 65, 98], .str [46, 66, 66], .str [46, 66, 66]] 9), none, none, none, none, none, none], []⟩⟩
def T0 : List EntH := []
theorem h0 : Shown T0 e0 := by
  show _ = _
  kernel_rfl
def e1 : EntH := ⟨82, [.str [49, 48, 48, 48, 48, 48]], [none, none, none, none, none, none, none, none, none, none, none], ⟨.agg [.int .i64 (100000), .nilsl], [none, none, none, none, none, none, none, none, none, none, none], []⟩⟩
def T1 : List EntH := [e0]
theorem h1 : Shown T1 e1 := by
  show _ = _
  kernel_rfl
def e2 : EntH := ⟨63, [.str [49, 48, 48, 48, 48, 48], .bool false], [none, none, none, none, none, none, none, none, none, none], ⟨.int .i64 (0), [none, none, none, none, none, none, none, none, none, none], []⟩⟩
def T2 : List EntH := [e0, e1]
theorem h2 : Shown T2 e2 := by
  show _ = _
  kernel_rfl
def e3 : EntH := ⟨63, [.str [53], .bool true], [none, none, none, none, none, none, none, none, none, none], ⟨.int .i64 (0), [none, none, none, none, none, none, none, none, none, none], []⟩⟩
def T3 : List EntH := [e0, e1, e2]
theorem h3 : Shown T3 e3 := by
  show _ = _
  kernel_rfl
def e4 : EntH := ⟨82, [.str [49, 48, 48, 48, 48, 48]], [none, none, none, none, none, none, none, none, none, none, none, none, none], ⟨.agg [.int .i64 (100000), .nilsl], [none, none, none, none, none, none, none, none, none, none, none, none, none], []⟩⟩
def T4 : List EntH := [e0, e1, e2, e3]
theorem h4 : Shown T4 e4 := by
  show _ = _
  kernel_rfl
def e5 : EntH := ⟨46, [.agg [.int .i64 (100000), .nilsl, .int .i64 (1), .nilsl, .int .i64 (5), .nilsl, .int .i64 (1), .nilsl], .int .i64 (2)], [none, none, none, none, none, none, none, none, none, none, none], ⟨.agg [.int .i64 (100010), .nilsl, .int .i64 (1), .nilsl, .int .i64 (100015), .nilsl, .int .i64 (1), .nilsl], [none, none, none, none, none, none, none, none, none, none, none], []⟩⟩
def T5 : List EntH := [e0, e1, e2, e3, e4]
theorem h5 : Shown T5 e5 := by
  show _ = _
  kernel_rfl
end Go.Ab.T5


/-
  Own work: pieces of the evaluation of the fixed examples.
-/
namespace Go.Ab.T5
set_option maxRecDepth 1000000
def e6 : EntH := ⟨46, [.agg [.int .i64 (100000), .nilsl, .int .i64 (1), .nilsl, .int .i64 (5), .nilsl, .int .i64 (1), .nilsl], .int .i64 (4)], [none, none, none, none, none, none, none, none, none, none, none, none, none, none, none], ⟨.agg [.int .i64 (100020), .nilsl, .int .i64 (1), .nilsl, .int .i64 (100025), .nilsl, .int .i64 (1), .nilsl], [none, none, none, none, none, none, none, none, none, none, none, none, none, none, none], []⟩⟩
def T6 : List EntH := [e0, e1, e2, e3, e4, e5]
theorem h6 : Shown T6 e6 := by
  show _ = _
  kernel_rfl
def e7 : EntH := ⟨31, [.agg [.int .i64 (3), .sl 2 0 6 1 (some 6)], .agg [.str [49, 48, 48, 48, 48, 48], .str [53]], .str [101, 120, 97, 99, 116]], [none, none, some (.cells [.str [46, 46, 46], .str [46, 97, 46], .str [97, 65, 46], .str [46, 65, 98], .str [46, 66, 66], .str [46, 66, 66]] 9), none, none, none, none], ⟨.tup [.sl 18 0 2 5 none, .int .i64 (0)], [none, none, some (.cells [.str [46, 46, 46], .str [46, 97, 46], .str [97, 65, 46], .str [46, 65, 98], .str [46, 66, 66], .str [46, 66, 66]] 9), none, none, none, none, some (.cells [.int .i64 (3), .sl 2 0 6 1 (some 6)] 39), some (.cells [.str [49, 48, 48, 48, 48, 48], .str [53]] 42), some (.cells [.int .i64 (0), .int .i64 (0), .int .i64 (0)] 25), some (.cells [.int .i64 (100000), .nilsl, .int .i64 (1), .nilsl, .int .i64 (5), .nilsl, .int .i64 (1), .nilsl] 98), some (.cells [.int .i64 (100010), .nilsl, .int .i64 (1), .nilsl, .int .i64 (100015), .nilsl, .int .i64 (1), .nilsl] 103), some (.cells [.str [116, 105, 109, 101], .int .i64 (100015), .str []] 32), some (.cells [.str [65], .int .i64 (0), .str [116, 105, 109, 101], .int .i64 (100015), .str []] 71), none, some (.cells [.int .i64 (100020), .nilsl, .int .i64 (1), .nilsl, .int .i64 (100025), .nilsl, .int .i64 (1), .nilsl] 103), some (.cells [.str [116, 105, 109, 101], .int .i64 (100025), .str []] 32), some (.cells [.str [66], .int .i64 (0), .str [116, 105, 109, 101], .int .i64 (100025), .str []] 71), some (.cells [.str [65], .int .i64 (1), .str [116, 105, 109, 101], .int .i64 (100015), .str [], .str [66], .int .i64 (2), .str [116, 105, 109, 101], .int .i64 (100025), .str []] 71)], []⟩⟩
def T7 : List EntH := [e0, e1, e2, e3, e4, e5, e6]
theorem h7 : Shown T7 e7 := by
  show _ = _
  kernel_rfl
def e8 : EntH := ⟨14, [.sl 22 0 2 4 none], [none, none, none, none, none, none, none, none, none, none, none, none, none, none, none, none, none, none, none, none, none, none, some (.cells [.str [65, 97], .str [116, 105, 109, 101], .int .i64 (100015), .str [], .str [66, 97], .str [116, 105, 109, 101], .int .i64 (100025), .str []] 52)], ⟨.tup [.sl 24 0 2 1 (some 2), .int .i64 (0)], [none, none, none, none, none, none, none, none, none, none, none, none, none, none, none, none, none, none, none, none, none, none, some (.cells [.str [65, 97], .str [116, 105, 109, 101], .int .i64 (100015), .str [], .str [66, 97], .str [116, 105, 109, 101], .int .i64 (100025), .str []] 52), some (.cells [.sl 22 0 2 4 none] 45), some (.cells [.int .i64 (1), .int .i64 (2)] 3), some (.cells [.str [65, 97], .str [116, 105, 109, 101], .int .i64 (100015), .str []] 52), some (.cells [.str [65, 97], .str [116, 105, 109, 101], .int .i64 (100015), .str []] 52), some (.cells [.str [66, 97], .str [116, 105, 109, 101], .int .i64 (100025), .str []] 52), some (.cells [.str [66, 97], .str [116, 105, 109, 101], .int .i64 (100025), .str []] 52), some (.cells [.str [65, 97], .str [116, 105, 109, 101], .int .i64 (100015), .str []] 52), some (.cells [.str [66, 97], .str [116, 105, 109, 101], .int .i64 (100025), .str []] 52)], []⟩⟩
def T8 : List EntH := [e0, e1, e2, e3, e4, e5, e6, e7]
theorem h8 : Shown T8 e8 := by
  show _ = _
  kernel_rfl
def e9 : EntH := ⟨36, [.sl 32 0 1 1 (some 1), .int .i64 (1), .int .i64 (0)], [none, none, none, none, none, none, none, none, none, none, none, none, none, none, none, none, none, none, none, none, none, none, some (.cells [.str [65, 97], .str [116, 105, 109, 101], .int .i64 (100015), .str [], .str [66, 97], .str [116, 105, 109, 101], .int .i64 (100025), .str []] 52), none, none, none, none, none, none, none, none, none, some (.cells [.sl 22 0 2 4 none] 45)], ⟨.int .i64 (0), [none, none, none, none, none, none, none, none, none, none, none, none, none, none, none, none, none, none, none, none, none, none, some (.cells [.str [65, 97], .str [116, 105, 109, 101], .int .i64 (100015), .str [], .str [66, 97], .str [116, 105, 109, 101], .int .i64 (100025), .str []] 52), none, none, none, none, none, none, none, none, none, some (.cells [.sl 22 0 2 4 none] 45)], []⟩⟩
def T9 : List EntH := [e0, e1, e2, e3, e4, e5, e6, e7, e8]
theorem h9 : Shown T9 e9 := by
  show _ = _
  kernel_rfl
def e10 : EntH := ⟨5, [], [], ⟨.bool true, [], []⟩⟩
def T10 : List EntH := [e0, e1, e2, e3, e4, e5, e6, e7, e8, e9]
theorem h10 : Shown T10 e10 := by
  show _ = _
  kernel_rfl
end Go.Ab.T5


/-
  Own work: the fixed examples hold: their contract.
-/
namespace Go.Ab.T5
set_option maxRecDepth 1000000
open Go.Proofs.Tryz

theorem mixed : prog.follows .mixedOrders = true := by kernel_rfl

theorem noNum : (prog.funcs.toList.all fun fn => !(fn.name == "runtime.NumGoroutine")) = true := by kernel_rfl

theorem ftOK : FTOK prog gl FT := by
  intro f fi h
  unfold FT ftab at h
  split at h
  · rename_i fn p h1 h2
    refine ⟨fn, p, h1, ?_, h⟩
    have hm : fn ∈ prog.funcs.toList := by
      have := Array.mem_of_getElem? h1
      simpa using this
    have := List.all_eq_true.1 noNum fn hm
    simpa using this
  · cases h

theorem x138 : XOK prog 138 .add64 := ⟨⟨_, rfl, by kernel_rfl, by kernel_rfl, by kernel_rfl, by kernel_rfl⟩⟩
theorem x160 : XOK prog 160 .sub64 := ⟨⟨_, rfl, by kernel_rfl, by kernel_rfl, by kernel_rfl, by kernel_rfl⟩⟩
theorem x176 : XOK prog 176 .index := ⟨⟨_, rfl, by kernel_rfl, by kernel_rfl, by kernel_rfl, by kernel_rfl⟩⟩
theorem x165 : XOK prog 165 .same := ⟨⟨_, rfl, by kernel_rfl, by kernel_rfl, by kernel_rfl, by kernel_rfl⟩⟩

theorem xOK : ExtOK prog gl (extN XN) := by
  refine extN_ok ?_
  intro p hp
  simp only [XN, List.mem_cons, List.not_mem_nil, or_false] at hp
  rcases hp with rfl | rfl | rfl | rfl
  · exact x138
  · exact x160
  · exact x176
  · exact x165

theorem forall_nil {α : Type} {p : α → Prop} : ∀ x ∈ ([] : List α), p x := by simp
theorem forall_cons {α : Type} {p : α → Prop} {e : α} {l : List α} (h : p e) (hl : ∀ x ∈ l, p x) : ∀ x ∈ e :: l, p x := by
  intro x hx
  rcases List.mem_cons.1 hx with rfl | hx
  · exact h
  · exact hl x hx

theorem shown_ok {T : List EntH} (hT : ∀ e ∈ T, EntHOK prog gl e) {e : EntH} (h : Shown T e) : EntHOK prog gl e :=
  entH_ok (callWith_ok (eval_ok mixed (extH_ok hT xOK) ftOK 100000) (extH_ok hT xOK) ftOK) h

theorem o0 : EntHOK prog gl e0 := shown_ok (T := T0) (forall_nil) h0
theorem o1 : EntHOK prog gl e1 := shown_ok (T := T1) (forall_cons o0 (forall_nil)) h1
theorem o2 : EntHOK prog gl e2 := shown_ok (T := T2) (forall_cons o0 (forall_cons o1 (forall_nil))) h2
theorem o3 : EntHOK prog gl e3 := shown_ok (T := T3) (forall_cons o0 (forall_cons o1 (forall_cons o2 (forall_nil)))) h3
theorem o4 : EntHOK prog gl e4 := shown_ok (T := T4) (forall_cons o0 (forall_cons o1 (forall_cons o2 (forall_cons o3 (forall_nil))))) h4
theorem o5 : EntHOK prog gl e5 := shown_ok (T := T5) (forall_cons o0 (forall_cons o1 (forall_cons o2 (forall_cons o3 (forall_cons o4 (forall_nil)))))) h5
theorem o6 : EntHOK prog gl e6 := shown_ok (T := T6) (forall_cons o0 (forall_cons o1 (forall_cons o2 (forall_cons o3 (forall_cons o4 (forall_cons o5 (forall_nil))))))) h6
theorem o7 : EntHOK prog gl e7 := shown_ok (T := T7) (forall_cons o0 (forall_cons o1 (forall_cons o2 (forall_cons o3 (forall_cons o4 (forall_cons o5 (forall_cons o6 (forall_nil)))))))) h7
theorem o8 : EntHOK prog gl e8 := shown_ok (T := T8) (forall_cons o0 (forall_cons o1 (forall_cons o2 (forall_cons o3 (forall_cons o4 (forall_cons o5 (forall_cons o6 (forall_cons o7 (forall_nil))))))))) h8
theorem o9 : EntHOK prog gl e9 := shown_ok (T := T9) (forall_cons o0 (forall_cons o1 (forall_cons o2 (forall_cons o3 (forall_cons o4 (forall_cons o5 (forall_cons o6 (forall_cons o7 (forall_cons o8 (forall_nil)))))))))) h9
theorem o10 : EntHOK prog gl e10 := shown_ok (T := T10) (forall_cons o0 (forall_cons o1 (forall_cons o2 (forall_cons o3 (forall_cons o4 (forall_cons o5 (forall_cons o6 (forall_cons o7 (forall_cons o8 (forall_cons o9 (forall_nil))))))))))) h10

end Go.Ab.T5

