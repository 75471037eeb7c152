/-
  Own work: stadionlaw01.MarkRounds answers true.
-/
import Derived.Test.YtcjphdmkgmkabaaGreatDoorLib3
namespace Go.Ab.Ch1
variable {inv : InvF} {F : FuncId → Option IFunc}

/-- What MarkRounds calls. -/
structure Calls11 (M : Mach) : Prop where
  c18 : ∀ h, M.ext 18 [] h = some ⟨.bool true, h, []⟩
  c34 : ∀ k v r h, M.ext 34 [mkM k v r] h = some ⟨.bool (decide (k.length ≤ 40 ∧ r.length ≤ 40)), h, []⟩
  c35 : ∀ k v r h, M.ext 35 [mkM k v r] h = some ⟨.int .i64 (chk k v r), h, []⟩
  c40 : ∀ k v r c h, M.ext 40 [mkM k v r, .str c] h = some ⟨roundT k v r c, h, []⟩
  c37 : ∀ k v r k' v' r' h, M.ext 37 [mkM k v r, mkM k' v' r'] h = some ⟨.tup [.int .i64 (if cmpE k v r k' v' r' ≠ 0 then 0 else cmpW (worth k v) (worth k' v')), .int .i64 (cmpE k v r k' v' r')], h, []⟩
  c69 : ∀ c h, M.ext 69 [.str c] h = some ⟨.tup [.int .i64 (stepS c), .str (stepK c)], h, []⟩
  c70 : ∀ e h, M.ext 70 [.int .i64 e] h = some ⟨.bool (decide (e = 0 ∨ e = 13 ∨ e = 4)), h, []⟩
  c42 : ∀ n h, M.ext 42 [.int .i64 n] h = some ⟨.tup [.int .i64 (if n < -9999 ∨ 9999 < n then 0 else wind n), .int .i64 (if n < -9999 ∨ 9999 < n then 3 else 0)], h, []⟩

/-- Two records of a text, a number and a text that are the same: not unequal. -/
theorem _root_.Go.Ab.WO.eqN {M : Mach} {t : Nat} {x y : IOpd} {l : List IOper} {pe : List AV} {lo : List (Nat × AV)} {hp : Heap} {df wr : List Nat} {k r : List UInt8} {v : Int} {Q : StW → Prop} (hx : (St.mk pe lo hp df).opd x = some (.agg [.str k, .int .i64 v, .str r])) (hy : (St.mk pe lo hp df).opd y = some (.agg [.str k, .int .i64 v, .str r]))
    (h1 : WO M l ⟨⟨pe, (t, .bool false) :: lo, hp, df⟩, wr⟩ Q) :
    WO M (⟨.l t, .eq true (.strct [(0, 1, false, .str), (1, 1, false, .int), (2, 1, false, .str)]) x y, none⟩ :: l) ⟨⟨pe, lo, hp, df⟩, wr⟩ Q := by
  have e : eqA 100 (.strct [(0, 1, false, .str), (1, 1, false, .int), (2, 1, false, .str)]) (.agg [.str k, .int .i64 v, .str r]) (.agg [.str k, .int .i64 v, .str r]) = some true := by
    simp only [eqA, goEq, partOf, List.getElem?_cons_zero, List.getElem?_cons_succ, Bool.false_eq_true, if_false, if_true, beq_self_eq_true]
  exact WO.op (WP.pure (v := .bool false) rfl (by simp only [pureA, hx, hy, e, if_true, Bool.not_true]) h1)

def t11 : ICode :=
 .seq (.region [⟨(.l 72), .load 3 true (.p 3), none⟩,
      ⟨(.l 73), .mv (.p 2), none⟩,
      ⟨(.l 74), .call (.c (.fn (.func 40) [] [])) [(.l 72), (.l 73)], none⟩,
      ⟨(.l 71), .mv (.l 74), none⟩,
      ⟨(.l 75), .extract 0 (.l 71), none⟩,
      ⟨(.l 76), .extract 1 (.l 71), none⟩,
      ⟨(.p 6), .alloc 49 [.str [], .int .i64 (0), .str []], none⟩,
      ⟨.no, .store 3 (.p 6) (.l 75), none⟩,
      ⟨(.p 7), .mv (.l 76), none⟩])
    (.seq (.region [⟨(.l 78), .load 3 true (.p 4), none⟩,
       ⟨(.l 79), .mv (.p 2), none⟩,
       ⟨(.l 80), .call (.c (.fn (.func 40) [] [])) [(.l 78), (.l 79)], none⟩,
       ⟨(.l 77), .mv (.l 80), none⟩,
       ⟨(.l 81), .extract 0 (.l 77), none⟩,
       ⟨(.l 82), .extract 1 (.l 77), none⟩,
       ⟨(.p 8), .alloc 49 [.str [], .int .i64 (0), .str []], none⟩,
       ⟨.no, .store 3 (.p 8) (.l 81), none⟩,
       ⟨(.p 9), .mv (.l 82), none⟩])
     (.seq (.region [⟨(.l 84), .mv (.p 2), none⟩,
        ⟨(.l 85), .call (.c (.fn (.func 69) [] [])) [(.l 84)], none⟩,
        ⟨(.l 83), .mv (.l 85), none⟩,
        ⟨(.l 86), .extract 0 (.l 83), none⟩,
        ⟨(.l 87), .extract 1 (.l 83), none⟩,
        ⟨(.p 10), .mv (.l 86), none⟩,
        ⟨(.l 12), .mv (.l 87), none⟩])
      (.seq (.seq (.region [⟨(.l 88), .mv (.p 7), none⟩,
          ⟨(.l 89), .bin .neq (.l 88) (.c (.int .i64 (0))), none⟩,
          ⟨(.l 90), .mv (.l 89), none⟩,
          ⟨(.l 91), .mv (.p 9), some ((.l 90), false)⟩,
          ⟨(.l 92), .bin .neq (.l 91) (.c (.int .i64 (0))), some ((.l 90), false)⟩,
          ⟨(.l 93), .pick (.l 90) (.c (.bool true)) (.l 92), none⟩])
        (.cond (.l 93)
         (.seq (.region [⟨(.p 11), .mv (.c (.fn (.func 70) [] [])), none⟩])
          (.seq (.region [⟨(.l 94), .mv (.p 11), none⟩,
             ⟨(.l 95), .mv (.p 7), none⟩,
             ⟨(.l 96), .call (.l 94) [(.l 95)], none⟩,
             ⟨(.l 97), .mv (.l 96), none⟩,
             ⟨(.l 98), .mv (.p 11), some ((.l 97), true)⟩,
             ⟨(.l 99), .mv (.p 9), some ((.l 97), true)⟩,
             ⟨(.l 100), .call (.l 98) [(.l 99)], some ((.l 97), true)⟩,
             ⟨(.l 101), .pick (.l 97) (.l 100) (.c (.bool false)), none⟩,
             ⟨(.p 5), .mv (.l 101), none⟩])
           (.ret)))
         (.skip)))
       (.seq (.seq (.region [⟨(.l 102), .mv (.p 10), none⟩,
           ⟨(.l 103), .bin .eql (.l 102) (.c (.int .i64 (0))), none⟩,
           ⟨(.l 104), .mv (.l 103), none⟩,
           ⟨(.l 105), .faddr 0 (.p 6), some ((.l 104), false)⟩,
           ⟨(.l 106), .load 1 false (.l 105), some ((.l 104), false)⟩,
           ⟨(.l 107), .faddr 0 (.p 3), some ((.l 104), false)⟩,
           ⟨(.l 108), .load 1 false (.l 107), some ((.l 104), false)⟩,
           ⟨(.l 109), .bin .neq (.l 106) (.l 108), some ((.l 104), false)⟩,
           ⟨(.l 110), .pick (.l 104) (.c (.bool true)) (.l 109), none⟩,
           ⟨(.l 111), .mv (.l 110), none⟩,
           ⟨(.l 112), .faddr 1 (.p 6), some ((.l 111), false)⟩,
           ⟨(.l 113), .load 1 false (.l 112), some ((.l 111), false)⟩,
           ⟨(.l 114), .mv (.p 10), some ((.l 111), false)⟩,
           ⟨(.l 115), .bin .rem (.l 113) (.l 114), some ((.l 111), false)⟩,
           ⟨(.l 116), .bin .neq (.l 115) (.c (.int .i64 (0))), some ((.l 111), false)⟩,
           ⟨(.l 117), .pick (.l 111) (.c (.bool true)) (.l 116), none⟩])
         (.cond (.l 117)
          (.seq (.region [⟨(.p 5), .mv (.c (.bool false)), none⟩])
           (.ret))
          (.skip)))
        (.seq (.region [⟨(.l 118), .faddr 1 (.p 6), none⟩,
           ⟨(.l 119), .load 1 false (.l 118), none⟩,
           ⟨(.l 120), .faddr 1 (.p 3), none⟩,
           ⟨(.l 121), .load 1 false (.l 120), none⟩,
           ⟨(.l 122), .bin .sub (.l 119) (.l 121), none⟩,
           ⟨(.p 12), .mv (.l 122), none⟩])
         (.seq (.seq (.region [⟨(.l 123), .faddr 0 (.p 3), none⟩,
             ⟨(.l 124), .load 1 false (.l 123), none⟩,
             ⟨(.l 125), .bin .eql (.l 124) (.c (.str [108, 101, 110, 103, 116, 104])), none⟩])
           (.cond (.l 125)
            (.region [⟨(.l 126), .mv (.p 12), none⟩,
              ⟨(.l 127), .un .neg (.l 126), none⟩,
              ⟨(.p 12), .mv (.l 127), none⟩])
            (.skip)))
          (.seq (.region [⟨(.l 129), .load 3 true (.p 6), none⟩,
             ⟨(.l 130), .mv (.p 2), none⟩,
             ⟨(.l 131), .call (.c (.fn (.func 40) [] [])) [(.l 129), (.l 130)], none⟩,
             ⟨(.l 128), .mv (.l 131), none⟩,
             ⟨(.l 132), .extract 0 (.l 128), none⟩,
             ⟨(.l 133), .extract 1 (.l 128), none⟩,
             ⟨(.p 13), .alloc 49 [.str [], .int .i64 (0), .str []], none⟩,
             ⟨.no, .store 3 (.p 13) (.l 132), none⟩,
             ⟨(.p 14), .mv (.l 133), none⟩])
           (.seq (.region [⟨(.l 135), .load 3 true (.p 6), none⟩,
              ⟨(.l 136), .load 3 true (.p 3), none⟩,
              ⟨(.l 137), .call (.c (.fn (.func 37) [] [])) [(.l 135), (.l 136)], none⟩,
              ⟨(.l 134), .mv (.l 137), none⟩,
              ⟨(.l 138), .extract 0 (.l 134), none⟩,
              ⟨(.l 139), .extract 1 (.l 134), none⟩,
              ⟨(.p 15), .mv (.l 138), none⟩,
              ⟨(.p 16), .mv (.l 139), none⟩])
            (.seq (.region [⟨(.l 141), .load 3 true (.p 3), none⟩,
               ⟨(.l 142), .load 3 true (.p 4), none⟩,
               ⟨(.l 143), .call (.c (.fn (.func 37) [] [])) [(.l 141), (.l 142)], none⟩,
               ⟨(.l 140), .mv (.l 143), none⟩,
               ⟨(.l 144), .extract 0 (.l 140), none⟩,
               ⟨(.l 145), .extract 1 (.l 140), none⟩,
               ⟨(.p 17), .mv (.l 144), none⟩,
               ⟨(.p 18), .mv (.l 145), none⟩])
             (.seq (.region [⟨(.l 147), .load 3 true (.p 6), none⟩,
                ⟨(.l 148), .load 3 true (.p 8), none⟩,
                ⟨(.l 149), .call (.c (.fn (.func 37) [] [])) [(.l 147), (.l 148)], none⟩,
                ⟨(.l 146), .mv (.l 149), none⟩,
                ⟨(.l 150), .extract 0 (.l 146), none⟩,
                ⟨(.l 151), .extract 1 (.l 146), none⟩,
                ⟨(.p 19), .mv (.l 150), none⟩,
                ⟨(.p 20), .mv (.l 151), none⟩])
              (.seq (.seq (.region [⟨(.l 152), .mv (.p 14), none⟩,
                  ⟨(.l 153), .mv (.p 16), none⟩,
                  ⟨(.l 154), .bin .add (.l 152) (.l 153), none⟩,
                  ⟨(.l 155), .mv (.p 18), none⟩,
                  ⟨(.l 156), .bin .add (.l 154) (.l 155), none⟩,
                  ⟨(.l 157), .mv (.p 20), none⟩,
                  ⟨(.l 158), .bin .add (.l 156) (.l 157), none⟩,
                  ⟨(.l 159), .bin .neq (.l 158) (.c (.int .i64 (0))), none⟩,
                  ⟨(.l 160), .mv (.l 159), none⟩,
                  ⟨(.l 161), .mv (.p 12), some ((.l 160), false)⟩,
                  ⟨(.l 162), .bin .lss (.l 161) (.c (.int .i64 (0))), some ((.l 160), false)⟩,
                  ⟨(.l 163), .pick (.l 160) (.c (.bool true)) (.l 162), none⟩,
                  ⟨(.l 164), .mv (.l 163), none⟩,
                  ⟨(.l 165), .mv (.p 12), some ((.l 164), false)⟩,
                  ⟨(.l 166), .mv (.p 10), some ((.l 164), false)⟩,
                  ⟨(.l 167), .bin .geq (.l 165) (.l 166), some ((.l 164), false)⟩,
                  ⟨(.l 168), .pick (.l 164) (.c (.bool true)) (.l 167), none⟩,
                  ⟨(.l 169), .mv (.l 168), none⟩,
                  ⟨(.l 170), .load 3 true (.p 13), some ((.l 169), false)⟩,
                  ⟨(.l 171), .load 3 true (.p 6), some ((.l 169), false)⟩,
                  ⟨(.l 172), .eq true (.strct [(0, 1, false, .str), (1, 1, false, .int), (2, 1, false, .str)]) (.l 170) (.l 171), some ((.l 169), false)⟩,
                  ⟨(.l 173), .pick (.l 169) (.c (.bool true)) (.l 172), none⟩,
                  ⟨(.l 174), .mv (.l 173), none⟩,
                  ⟨(.l 175), .mv (.p 15), some ((.l 174), false)⟩,
                  ⟨(.l 176), .bin .lss (.l 175) (.c (.int .i64 (0))), some ((.l 174), false)⟩,
                  ⟨(.l 177), .pick (.l 174) (.c (.bool true)) (.l 176), none⟩,
                  ⟨(.l 178), .mv (.l 177), none⟩,
                  ⟨(.l 179), .mv (.p 17), some ((.l 178), false)⟩,
                  ⟨(.l 180), .mv (.p 19), some ((.l 178), false)⟩,
                  ⟨(.l 181), .bin .mul (.l 179) (.l 180), some ((.l 178), false)⟩,
                  ⟨(.l 182), .bin .lss (.l 181) (.c (.int .i64 (0))), some ((.l 178), false)⟩,
                  ⟨(.l 183), .pick (.l 178) (.c (.bool true)) (.l 182), none⟩,
                  ⟨(.l 184), .mv (.l 183), none⟩,
                  ⟨(.l 185), .mv (.p 17), some ((.l 184), false)⟩,
                  ⟨(.l 186), .bin .eql (.l 185) (.c (.int .i64 (0))), some ((.l 184), false)⟩,
                  ⟨(.l 187), .mv (.l 186), some ((.l 184), false)⟩,
                  ⟨(.l 188), .mv (.p 19), some ((.l 187), true)⟩,
                  ⟨(.l 189), .bin .neq (.l 188) (.c (.int .i64 (0))), some ((.l 187), true)⟩,
                  ⟨(.l 190), .pick (.l 187) (.l 189) (.c (.bool false)), some ((.l 184), false)⟩,
                  ⟨(.l 191), .pick (.l 184) (.c (.bool true)) (.l 190), none⟩])
                (.cond (.l 191)
                 (.seq (.region [⟨(.p 5), .mv (.c (.bool false)), none⟩])
                  (.ret))
                 (.skip)))
               (.seq (.region [⟨(.l 192), .faddr 1 (.p 3), none⟩,
                  ⟨(.l 193), .load 1 false (.l 192), none⟩,
                  ⟨(.l 194), .bin .rem (.l 193) (.c (.int .i64 (19999))), none⟩,
                  ⟨(.p 21), .mv (.l 194), none⟩])
                (.seq (.region [⟨(.l 196), .mv (.p 21), none⟩,
                   ⟨(.l 197), .bin .sub (.l 196) (.c (.int .i64 (9999))), none⟩,
                   ⟨(.l 198), .call (.c (.fn (.func 42) [] [])) [(.l 197)], none⟩,
                   ⟨(.l 195), .mv (.l 198), none⟩,
                   ⟨(.l 199), .extract 0 (.l 195), none⟩,
                   ⟨(.l 200), .extract 1 (.l 195), none⟩,
                   ⟨(.p 22), .mv (.l 199), none⟩,
                   ⟨(.p 23), .mv (.l 200), none⟩])
                 (.seq (.region [⟨(.l 201), .mv (.p 23), none⟩,
                    ⟨(.l 202), .bin .eql (.l 201) (.c (.int .i64 (0))), none⟩,
                    ⟨(.l 203), .mv (.l 202), none⟩,
                    ⟨(.l 204), .mv (.p 22), some ((.l 203), true)⟩,
                    ⟨(.l 205), .bin .mul (.c (.int .i64 (10))) (.l 204), some ((.l 203), true)⟩,
                    ⟨(.l 206), .mv (.p 21), some ((.l 203), true)⟩,
                    ⟨(.l 207), .bin .sub (.l 206) (.c (.int .i64 (9999))), some ((.l 203), true)⟩,
                    ⟨(.l 208), .bin .geq (.l 205) (.l 207), some ((.l 203), true)⟩,
                    ⟨(.l 209), .pick (.l 203) (.l 208) (.c (.bool false)), none⟩,
                    ⟨(.l 210), .mv (.l 209), none⟩,
                    ⟨(.l 211), .mv (.p 22), some ((.l 210), true)⟩,
                    ⟨(.l 212), .bin .sub (.l 211) (.c (.int .i64 (1))), some ((.l 210), true)⟩,
                    ⟨(.l 213), .bin .mul (.c (.int .i64 (10))) (.l 212), some ((.l 210), true)⟩,
                    ⟨(.l 214), .mv (.p 21), some ((.l 210), true)⟩,
                    ⟨(.l 215), .bin .sub (.l 214) (.c (.int .i64 (9999))), some ((.l 210), true)⟩,
                    ⟨(.l 216), .bin .lss (.l 213) (.l 215), some ((.l 210), true)⟩,
                    ⟨(.l 217), .pick (.l 210) (.l 216) (.c (.bool false)), none⟩,
                    ⟨(.p 5), .mv (.l 217), none⟩])
                  (.ret)))))))))))))))

def t11b : ICode :=
 .seq (.seq (.region [⟨(.l 102), .mv (.p 10), none⟩,
           ⟨(.l 103), .bin .eql (.l 102) (.c (.int .i64 (0))), none⟩,
           ⟨(.l 104), .mv (.l 103), none⟩,
           ⟨(.l 105), .faddr 0 (.p 6), some ((.l 104), false)⟩,
           ⟨(.l 106), .load 1 false (.l 105), some ((.l 104), false)⟩,
           ⟨(.l 107), .faddr 0 (.p 3), some ((.l 104), false)⟩,
           ⟨(.l 108), .load 1 false (.l 107), some ((.l 104), false)⟩,
           ⟨(.l 109), .bin .neq (.l 106) (.l 108), some ((.l 104), false)⟩,
           ⟨(.l 110), .pick (.l 104) (.c (.bool true)) (.l 109), none⟩,
           ⟨(.l 111), .mv (.l 110), none⟩,
           ⟨(.l 112), .faddr 1 (.p 6), some ((.l 111), false)⟩,
           ⟨(.l 113), .load 1 false (.l 112), some ((.l 111), false)⟩,
           ⟨(.l 114), .mv (.p 10), some ((.l 111), false)⟩,
           ⟨(.l 115), .bin .rem (.l 113) (.l 114), some ((.l 111), false)⟩,
           ⟨(.l 116), .bin .neq (.l 115) (.c (.int .i64 (0))), some ((.l 111), false)⟩,
           ⟨(.l 117), .pick (.l 111) (.c (.bool true)) (.l 116), none⟩])
         (.cond (.l 117)
          (.seq (.region [⟨(.p 5), .mv (.c (.bool false)), none⟩])
           (.ret))
          (.skip)))
        (.seq (.region [⟨(.l 118), .faddr 1 (.p 6), none⟩,
           ⟨(.l 119), .load 1 false (.l 118), none⟩,
           ⟨(.l 120), .faddr 1 (.p 3), none⟩,
           ⟨(.l 121), .load 1 false (.l 120), none⟩,
           ⟨(.l 122), .bin .sub (.l 119) (.l 121), none⟩,
           ⟨(.p 12), .mv (.l 122), none⟩])
         (.seq (.seq (.region [⟨(.l 123), .faddr 0 (.p 3), none⟩,
             ⟨(.l 124), .load 1 false (.l 123), none⟩,
             ⟨(.l 125), .bin .eql (.l 124) (.c (.str [108, 101, 110, 103, 116, 104])), none⟩])
           (.cond (.l 125)
            (.region [⟨(.l 126), .mv (.p 12), none⟩,
              ⟨(.l 127), .un .neg (.l 126), none⟩,
              ⟨(.p 12), .mv (.l 127), none⟩])
            (.skip)))
          (.seq (.region [⟨(.l 129), .load 3 true (.p 6), none⟩,
             ⟨(.l 130), .mv (.p 2), none⟩,
             ⟨(.l 131), .call (.c (.fn (.func 40) [] [])) [(.l 129), (.l 130)], none⟩,
             ⟨(.l 128), .mv (.l 131), none⟩,
             ⟨(.l 132), .extract 0 (.l 128), none⟩,
             ⟨(.l 133), .extract 1 (.l 128), none⟩,
             ⟨(.p 13), .alloc 49 [.str [], .int .i64 (0), .str []], none⟩,
             ⟨.no, .store 3 (.p 13) (.l 132), none⟩,
             ⟨(.p 14), .mv (.l 133), none⟩])
           (.seq (.region [⟨(.l 135), .load 3 true (.p 6), none⟩,
              ⟨(.l 136), .load 3 true (.p 3), none⟩,
              ⟨(.l 137), .call (.c (.fn (.func 37) [] [])) [(.l 135), (.l 136)], none⟩,
              ⟨(.l 134), .mv (.l 137), none⟩,
              ⟨(.l 138), .extract 0 (.l 134), none⟩,
              ⟨(.l 139), .extract 1 (.l 134), none⟩,
              ⟨(.p 15), .mv (.l 138), none⟩,
              ⟨(.p 16), .mv (.l 139), none⟩])
            (.seq (.region [⟨(.l 141), .load 3 true (.p 3), none⟩,
               ⟨(.l 142), .load 3 true (.p 4), none⟩,
               ⟨(.l 143), .call (.c (.fn (.func 37) [] [])) [(.l 141), (.l 142)], none⟩,
               ⟨(.l 140), .mv (.l 143), none⟩,
               ⟨(.l 144), .extract 0 (.l 140), none⟩,
               ⟨(.l 145), .extract 1 (.l 140), none⟩,
               ⟨(.p 17), .mv (.l 144), none⟩,
               ⟨(.p 18), .mv (.l 145), none⟩])
             (.seq (.region [⟨(.l 147), .load 3 true (.p 6), none⟩,
                ⟨(.l 148), .load 3 true (.p 8), none⟩,
                ⟨(.l 149), .call (.c (.fn (.func 37) [] [])) [(.l 147), (.l 148)], none⟩,
                ⟨(.l 146), .mv (.l 149), none⟩,
                ⟨(.l 150), .extract 0 (.l 146), none⟩,
                ⟨(.l 151), .extract 1 (.l 146), none⟩,
                ⟨(.p 19), .mv (.l 150), none⟩,
                ⟨(.p 20), .mv (.l 151), none⟩])
              (.seq (.seq (.region [⟨(.l 152), .mv (.p 14), none⟩,
                  ⟨(.l 153), .mv (.p 16), none⟩,
                  ⟨(.l 154), .bin .add (.l 152) (.l 153), none⟩,
                  ⟨(.l 155), .mv (.p 18), none⟩,
                  ⟨(.l 156), .bin .add (.l 154) (.l 155), none⟩,
                  ⟨(.l 157), .mv (.p 20), none⟩,
                  ⟨(.l 158), .bin .add (.l 156) (.l 157), none⟩,
                  ⟨(.l 159), .bin .neq (.l 158) (.c (.int .i64 (0))), none⟩,
                  ⟨(.l 160), .mv (.l 159), none⟩,
                  ⟨(.l 161), .mv (.p 12), some ((.l 160), false)⟩,
                  ⟨(.l 162), .bin .lss (.l 161) (.c (.int .i64 (0))), some ((.l 160), false)⟩,
                  ⟨(.l 163), .pick (.l 160) (.c (.bool true)) (.l 162), none⟩,
                  ⟨(.l 164), .mv (.l 163), none⟩,
                  ⟨(.l 165), .mv (.p 12), some ((.l 164), false)⟩,
                  ⟨(.l 166), .mv (.p 10), some ((.l 164), false)⟩,
                  ⟨(.l 167), .bin .geq (.l 165) (.l 166), some ((.l 164), false)⟩,
                  ⟨(.l 168), .pick (.l 164) (.c (.bool true)) (.l 167), none⟩,
                  ⟨(.l 169), .mv (.l 168), none⟩,
                  ⟨(.l 170), .load 3 true (.p 13), some ((.l 169), false)⟩,
                  ⟨(.l 171), .load 3 true (.p 6), some ((.l 169), false)⟩,
                  ⟨(.l 172), .eq true (.strct [(0, 1, false, .str), (1, 1, false, .int), (2, 1, false, .str)]) (.l 170) (.l 171), some ((.l 169), false)⟩,
                  ⟨(.l 173), .pick (.l 169) (.c (.bool true)) (.l 172), none⟩,
                  ⟨(.l 174), .mv (.l 173), none⟩,
                  ⟨(.l 175), .mv (.p 15), some ((.l 174), false)⟩,
                  ⟨(.l 176), .bin .lss (.l 175) (.c (.int .i64 (0))), some ((.l 174), false)⟩,
                  ⟨(.l 177), .pick (.l 174) (.c (.bool true)) (.l 176), none⟩,
                  ⟨(.l 178), .mv (.l 177), none⟩,
                  ⟨(.l 179), .mv (.p 17), some ((.l 178), false)⟩,
                  ⟨(.l 180), .mv (.p 19), some ((.l 178), false)⟩,
                  ⟨(.l 181), .bin .mul (.l 179) (.l 180), some ((.l 178), false)⟩,
                  ⟨(.l 182), .bin .lss (.l 181) (.c (.int .i64 (0))), some ((.l 178), false)⟩,
                  ⟨(.l 183), .pick (.l 178) (.c (.bool true)) (.l 182), none⟩,
                  ⟨(.l 184), .mv (.l 183), none⟩,
                  ⟨(.l 185), .mv (.p 17), some ((.l 184), false)⟩,
                  ⟨(.l 186), .bin .eql (.l 185) (.c (.int .i64 (0))), some ((.l 184), false)⟩,
                  ⟨(.l 187), .mv (.l 186), some ((.l 184), false)⟩,
                  ⟨(.l 188), .mv (.p 19), some ((.l 187), true)⟩,
                  ⟨(.l 189), .bin .neq (.l 188) (.c (.int .i64 (0))), some ((.l 187), true)⟩,
                  ⟨(.l 190), .pick (.l 187) (.l 189) (.c (.bool false)), some ((.l 184), false)⟩,
                  ⟨(.l 191), .pick (.l 184) (.c (.bool true)) (.l 190), none⟩])
                (.cond (.l 191)
                 (.seq (.region [⟨(.p 5), .mv (.c (.bool false)), none⟩])
                  (.ret))
                 (.skip)))
               (.seq (.region [⟨(.l 192), .faddr 1 (.p 3), none⟩,
                  ⟨(.l 193), .load 1 false (.l 192), none⟩,
                  ⟨(.l 194), .bin .rem (.l 193) (.c (.int .i64 (19999))), none⟩,
                  ⟨(.p 21), .mv (.l 194), none⟩])
                (.seq (.region [⟨(.l 196), .mv (.p 21), none⟩,
                   ⟨(.l 197), .bin .sub (.l 196) (.c (.int .i64 (9999))), none⟩,
                   ⟨(.l 198), .call (.c (.fn (.func 42) [] [])) [(.l 197)], none⟩,
                   ⟨(.l 195), .mv (.l 198), none⟩,
                   ⟨(.l 199), .extract 0 (.l 195), none⟩,
                   ⟨(.l 200), .extract 1 (.l 195), none⟩,
                   ⟨(.p 22), .mv (.l 199), none⟩,
                   ⟨(.p 23), .mv (.l 200), none⟩])
                 (.seq (.region [⟨(.l 201), .mv (.p 23), none⟩,
                    ⟨(.l 202), .bin .eql (.l 201) (.c (.int .i64 (0))), none⟩,
                    ⟨(.l 203), .mv (.l 202), none⟩,
                    ⟨(.l 204), .mv (.p 22), some ((.l 203), true)⟩,
                    ⟨(.l 205), .bin .mul (.c (.int .i64 (10))) (.l 204), some ((.l 203), true)⟩,
                    ⟨(.l 206), .mv (.p 21), some ((.l 203), true)⟩,
                    ⟨(.l 207), .bin .sub (.l 206) (.c (.int .i64 (9999))), some ((.l 203), true)⟩,
                    ⟨(.l 208), .bin .geq (.l 205) (.l 207), some ((.l 203), true)⟩,
                    ⟨(.l 209), .pick (.l 203) (.l 208) (.c (.bool false)), none⟩,
                    ⟨(.l 210), .mv (.l 209), none⟩,
                    ⟨(.l 211), .mv (.p 22), some ((.l 210), true)⟩,
                    ⟨(.l 212), .bin .sub (.l 211) (.c (.int .i64 (1))), some ((.l 210), true)⟩,
                    ⟨(.l 213), .bin .mul (.c (.int .i64 (10))) (.l 212), some ((.l 210), true)⟩,
                    ⟨(.l 214), .mv (.p 21), some ((.l 210), true)⟩,
                    ⟨(.l 215), .bin .sub (.l 214) (.c (.int .i64 (9999))), some ((.l 210), true)⟩,
                    ⟨(.l 216), .bin .lss (.l 213) (.l 215), some ((.l 210), true)⟩,
                    ⟨(.l 217), .pick (.l 210) (.l 216) (.c (.bool false)), none⟩,
                    ⟨(.p 5), .mv (.l 217), none⟩])
                  (.ret)))))))))))

def t11c : ICode :=
 .seq (.seq (.region [⟨(.l 152), .mv (.p 14), none⟩,
                  ⟨(.l 153), .mv (.p 16), none⟩,
                  ⟨(.l 154), .bin .add (.l 152) (.l 153), none⟩,
                  ⟨(.l 155), .mv (.p 18), none⟩,
                  ⟨(.l 156), .bin .add (.l 154) (.l 155), none⟩,
                  ⟨(.l 157), .mv (.p 20), none⟩,
                  ⟨(.l 158), .bin .add (.l 156) (.l 157), none⟩,
                  ⟨(.l 159), .bin .neq (.l 158) (.c (.int .i64 (0))), none⟩,
                  ⟨(.l 160), .mv (.l 159), none⟩,
                  ⟨(.l 161), .mv (.p 12), some ((.l 160), false)⟩,
                  ⟨(.l 162), .bin .lss (.l 161) (.c (.int .i64 (0))), some ((.l 160), false)⟩,
                  ⟨(.l 163), .pick (.l 160) (.c (.bool true)) (.l 162), none⟩,
                  ⟨(.l 164), .mv (.l 163), none⟩,
                  ⟨(.l 165), .mv (.p 12), some ((.l 164), false)⟩,
                  ⟨(.l 166), .mv (.p 10), some ((.l 164), false)⟩,
                  ⟨(.l 167), .bin .geq (.l 165) (.l 166), some ((.l 164), false)⟩,
                  ⟨(.l 168), .pick (.l 164) (.c (.bool true)) (.l 167), none⟩,
                  ⟨(.l 169), .mv (.l 168), none⟩,
                  ⟨(.l 170), .load 3 true (.p 13), some ((.l 169), false)⟩,
                  ⟨(.l 171), .load 3 true (.p 6), some ((.l 169), false)⟩,
                  ⟨(.l 172), .eq true (.strct [(0, 1, false, .str), (1, 1, false, .int), (2, 1, false, .str)]) (.l 170) (.l 171), some ((.l 169), false)⟩,
                  ⟨(.l 173), .pick (.l 169) (.c (.bool true)) (.l 172), none⟩,
                  ⟨(.l 174), .mv (.l 173), none⟩,
                  ⟨(.l 175), .mv (.p 15), some ((.l 174), false)⟩,
                  ⟨(.l 176), .bin .lss (.l 175) (.c (.int .i64 (0))), some ((.l 174), false)⟩,
                  ⟨(.l 177), .pick (.l 174) (.c (.bool true)) (.l 176), none⟩,
                  ⟨(.l 178), .mv (.l 177), none⟩,
                  ⟨(.l 179), .mv (.p 17), some ((.l 178), false)⟩,
                  ⟨(.l 180), .mv (.p 19), some ((.l 178), false)⟩,
                  ⟨(.l 181), .bin .mul (.l 179) (.l 180), some ((.l 178), false)⟩,
                  ⟨(.l 182), .bin .lss (.l 181) (.c (.int .i64 (0))), some ((.l 178), false)⟩,
                  ⟨(.l 183), .pick (.l 178) (.c (.bool true)) (.l 182), none⟩,
                  ⟨(.l 184), .mv (.l 183), none⟩,
                  ⟨(.l 185), .mv (.p 17), some ((.l 184), false)⟩,
                  ⟨(.l 186), .bin .eql (.l 185) (.c (.int .i64 (0))), some ((.l 184), false)⟩,
                  ⟨(.l 187), .mv (.l 186), some ((.l 184), false)⟩,
                  ⟨(.l 188), .mv (.p 19), some ((.l 187), true)⟩,
                  ⟨(.l 189), .bin .neq (.l 188) (.c (.int .i64 (0))), some ((.l 187), true)⟩,
                  ⟨(.l 190), .pick (.l 187) (.l 189) (.c (.bool false)), some ((.l 184), false)⟩,
                  ⟨(.l 191), .pick (.l 184) (.c (.bool true)) (.l 190), none⟩])
                (.cond (.l 191)
                 (.seq (.region [⟨(.p 5), .mv (.c (.bool false)), none⟩])
                  (.ret))
                 (.skip)))
               (.seq (.region [⟨(.l 192), .faddr 1 (.p 3), none⟩,
                  ⟨(.l 193), .load 1 false (.l 192), none⟩,
                  ⟨(.l 194), .bin .rem (.l 193) (.c (.int .i64 (19999))), none⟩,
                  ⟨(.p 21), .mv (.l 194), none⟩])
                (.seq (.region [⟨(.l 196), .mv (.p 21), none⟩,
                   ⟨(.l 197), .bin .sub (.l 196) (.c (.int .i64 (9999))), none⟩,
                   ⟨(.l 198), .call (.c (.fn (.func 42) [] [])) [(.l 197)], none⟩,
                   ⟨(.l 195), .mv (.l 198), none⟩,
                   ⟨(.l 199), .extract 0 (.l 195), none⟩,
                   ⟨(.l 200), .extract 1 (.l 195), none⟩,
                   ⟨(.p 22), .mv (.l 199), none⟩,
                   ⟨(.p 23), .mv (.l 200), none⟩])
                 (.seq (.region [⟨(.l 201), .mv (.p 23), none⟩,
                    ⟨(.l 202), .bin .eql (.l 201) (.c (.int .i64 (0))), none⟩,
                    ⟨(.l 203), .mv (.l 202), none⟩,
                    ⟨(.l 204), .mv (.p 22), some ((.l 203), true)⟩,
                    ⟨(.l 205), .bin .mul (.c (.int .i64 (10))) (.l 204), some ((.l 203), true)⟩,
                    ⟨(.l 206), .mv (.p 21), some ((.l 203), true)⟩,
                    ⟨(.l 207), .bin .sub (.l 206) (.c (.int .i64 (9999))), some ((.l 203), true)⟩,
                    ⟨(.l 208), .bin .geq (.l 205) (.l 207), some ((.l 203), true)⟩,
                    ⟨(.l 209), .pick (.l 203) (.l 208) (.c (.bool false)), none⟩,
                    ⟨(.l 210), .mv (.l 209), none⟩,
                    ⟨(.l 211), .mv (.p 22), some ((.l 210), true)⟩,
                    ⟨(.l 212), .bin .sub (.l 211) (.c (.int .i64 (1))), some ((.l 210), true)⟩,
                    ⟨(.l 213), .bin .mul (.c (.int .i64 (10))) (.l 212), some ((.l 210), true)⟩,
                    ⟨(.l 214), .mv (.p 21), some ((.l 210), true)⟩,
                    ⟨(.l 215), .bin .sub (.l 214) (.c (.int .i64 (9999))), some ((.l 210), true)⟩,
                    ⟨(.l 216), .bin .lss (.l 213) (.l 215), some ((.l 210), true)⟩,
                    ⟨(.l 217), .pick (.l 210) (.l 216) (.c (.bool false)), none⟩,
                    ⟨(.p 5), .mv (.l 217), none⟩])
                  (.ret))))

def t11d : ICode :=
 .seq (.region [⟨(.l 192), .faddr 1 (.p 3), none⟩,
                  ⟨(.l 193), .load 1 false (.l 192), none⟩,
                  ⟨(.l 194), .bin .rem (.l 193) (.c (.int .i64 (19999))), none⟩,
                  ⟨(.p 21), .mv (.l 194), none⟩])
                (.seq (.region [⟨(.l 196), .mv (.p 21), none⟩,
                   ⟨(.l 197), .bin .sub (.l 196) (.c (.int .i64 (9999))), none⟩,
                   ⟨(.l 198), .call (.c (.fn (.func 42) [] [])) [(.l 197)], none⟩,
                   ⟨(.l 195), .mv (.l 198), none⟩,
                   ⟨(.l 199), .extract 0 (.l 195), none⟩,
                   ⟨(.l 200), .extract 1 (.l 195), none⟩,
                   ⟨(.p 22), .mv (.l 199), none⟩,
                   ⟨(.p 23), .mv (.l 200), none⟩])
                 (.seq (.region [⟨(.l 201), .mv (.p 23), none⟩,
                    ⟨(.l 202), .bin .eql (.l 201) (.c (.int .i64 (0))), none⟩,
                    ⟨(.l 203), .mv (.l 202), none⟩,
                    ⟨(.l 204), .mv (.p 22), some ((.l 203), true)⟩,
                    ⟨(.l 205), .bin .mul (.c (.int .i64 (10))) (.l 204), some ((.l 203), true)⟩,
                    ⟨(.l 206), .mv (.p 21), some ((.l 203), true)⟩,
                    ⟨(.l 207), .bin .sub (.l 206) (.c (.int .i64 (9999))), some ((.l 203), true)⟩,
                    ⟨(.l 208), .bin .geq (.l 205) (.l 207), some ((.l 203), true)⟩,
                    ⟨(.l 209), .pick (.l 203) (.l 208) (.c (.bool false)), none⟩,
                    ⟨(.l 210), .mv (.l 209), none⟩,
                    ⟨(.l 211), .mv (.p 22), some ((.l 210), true)⟩,
                    ⟨(.l 212), .bin .sub (.l 211) (.c (.int .i64 (1))), some ((.l 210), true)⟩,
                    ⟨(.l 213), .bin .mul (.c (.int .i64 (10))) (.l 212), some ((.l 210), true)⟩,
                    ⟨(.l 214), .mv (.p 21), some ((.l 210), true)⟩,
                    ⟨(.l 215), .bin .sub (.l 214) (.c (.int .i64 (9999))), some ((.l 210), true)⟩,
                    ⟨(.l 216), .bin .lss (.l 213) (.l 215), some ((.l 210), true)⟩,
                    ⟨(.l 217), .pick (.l 210) (.l 216) (.c (.bool false)), none⟩,
                    ⟨(.p 5), .mv (.l 217), none⟩])
                  (.ret)))

theorem w70 {T : List (Nat × Spec)} (hft : F = FT) (e : Int) : Run (mk0 T inv F) 70 [.int .i64 e] [] ⟨.bool (decide (e = 0 ∨ e = 13 ∨ e = 4)), [], []⟩ := by
  refine run_of_W (show F 70 = _ from by rw [hft]; exact ft70) (by simp) ?_
  unfold b70
  simp only [List.map_cons, List.map_nil, List.getElem?_cons_zero, List.getElem?_cons_succ, List.getElem?_nil, Option.getD_some, Option.getD_none]
  repeat' first | apply W.seq | apply SQn | apply W.region | apply WO.nil | apply W.block | apply W.ret | apply W.exit | apply W.skip | apply SQr | apply SQe | apply BQn | apply BQr | apply BQe | (apply BQo; exact rfl) | apply LQe | apply LQr | (apply W.condT; exact rfl) | (apply W.condF; exact rfl) | (apply W.cond; exact rfl; all_goals intro _) | (apply WO.gT; exact rfl) | (apply WO.gF; exact rfl) | (apply WO.sT; exact rfl) | (apply WO.sF; exact rfl) | (apply WO.sU; exact rfl) | (apply WO.eql; exact rfl; exact rfl; all_goals first | (intro _; exfalso; omega) | intro _) | (apply WO.pkT; exact rfl; exact rfl) | (apply WO.pkF; exact rfl; exact rfl) | (apply WO.seql; exact rfl; exact rfl; all_goals first | (intro h; exact absurd h (by decide)) | (intro h; exact absurd rfl h) | (intro h; contradiction) | intro _) | (apply WO.pl; exact rfl; exact rfl) | (apply WO.pp; exact rfl; exact rfl)
  all_goals exact ⟨.inr rfl, rfl, _, rfl, by simp [tupA, *], rfl⟩

theorem tail11d {M : Mach} (C : Calls11 M) (v : Int) (h0 : 0 ≤ v) (h1 : v ≤ 863999999) (k r : AV) (a0 a1 a2 a4 a6 a7 a8 a9 a10 a11 a12 a13 a14 a15 a16 a17 a18 a19 a20 : AV) (lo : List (Nat × AV)) (H : Heap) {wr : List Nat} {Q : Ex → StW → Prop}
    (hQ : ∀ s : StW, s.s.dfs = [] → s.s.pe[5]? = some (.bool true) → True = True → Q .ret s) :
    W M t11d ⟨⟨[a0, a1, a2, .ptr 0 0, a4, .bool false, a6, a7, a8, a9, a10, a11, a12, a13, a14, a15, a16, a17, a18, a19, a20, undefA, undefA, undefA], lo, some (.cells [k, .int .i64 v, r] 49) :: H, []⟩, wr⟩ Q := by
  obtain ⟨w, hw⟩ : ∃ w, wind (v % 19999 - 9999) = w := ⟨_, rfl⟩
  have hw' := hw
  unfold wind at hw'
  have hn : ¬ (v % 19999 - 9999 < -9999 ∨ 9999 < v % 19999 - 9999) := by omega
  have hW : ∀ h, M.ext 42 [.int .i64 (v % 19999 - 9999)] h = some ⟨.tup [.int .i64 w, .int .i64 0], h, []⟩ := fun h => by rw [C.c42, if_neg hn, if_neg hn, hw]
  unfold t11d
  repeat' first | apply W.seq | apply SQn | apply W.region | apply WO.nil | apply W.block | apply W.ret | apply W.exit | apply W.skip | apply SQr | apply SQe | apply BQn | apply BQr | apply BQe | (apply BQo; exact rfl) | apply LQe | apply LQr | (apply W.condT; exact rfl) | (apply W.condF; exact rfl) | (apply W.cond; exact rfl; all_goals intro _) | (apply WO.gT; exact rfl) | (apply WO.gF; exact rfl) | (apply WO.sT; exact rfl) | (apply WO.sF; exact rfl) | (apply WO.sU; exact rfl) | (apply WO.lss; exact rfl; exact rfl; all_goals first | (intro _; exfalso; omega) | intro _) | (apply WO.geq; exact rfl; exact rfl; all_goals first | (intro _; exfalso; omega) | intro _) | (apply WO.eql; exact rfl; exact rfl; all_goals first | (intro _; exfalso; omega) | intro _) | (apply WO.neq; exact rfl; exact rfl; all_goals first | (intro _; exfalso; omega) | intro _) | (apply WO.pkT; exact rfl; exact rfl) | (apply WO.pkF; exact rfl; exact rfl) | (apply WO.add; exact rfl; exact rfl; omega) | (apply WO.sub; exact rfl; exact rfl; omega) | (apply WO.mul; exact rfl; exact rfl; omega) | (apply WO.remp; exact rfl; exact rfl; omega; intro _ _) | (apply WO.remn; exact rfl; exact rfl; omega; intro _ _) | (apply WO.rem; exact rfl; exact rfl; omega) | (apply WO.cll; exact rfl; exact rfl; first | exact hW _) | (apply WO.seql; exact rfl; exact rfl; all_goals first | (intro h; exact absurd h (by decide)) | (intro h; exact absurd rfl h) | (intro h; contradiction) | intro _) | (apply WO.sneq; exact rfl; exact rfl; all_goals first | (intro h; exact absurd h (by decide)) | (intro h; exact absurd rfl h) | (intro h; contradiction) | intro _) | (apply WO.clb; exact rfl; exact rfl; exact rfl; all_goals first | (intro h; exact absurd h (by decide)) | intro _) | (apply WO.cll; exact rfl; exact rfl; exact rfl) | (apply WO.neg; exact rfl; omega) | (apply WO.hlv; exact rfl; exact rfl; exact rfl) | (apply WO.hpv; exact rfl; exact rfl; exact rfl) | (apply WO.hnv; exact rfl; exact rfl; exact rfl) | (apply WO.pl; exact rfl; exact rfl) | (apply WO.pp; exact rfl; exact rfl)
  all_goals exact hQ _ rfl rfl rfl

set_option maxHeartbeats 4000000 in
theorem tail11c {M : Mach} (C : Calls11 M) (v : Int) (h0 : 0 ≤ v) (h1 : v ≤ 863999999) (k r a0 a1 a2 a4 a7 a8 a9 a11 : AV) (kx : List UInt8) (x : Int) (rx : List UInt8) (s aw cc d f : Int) (ha0 : 0 ≤ aw) (ha1 : aw < s) (hc : cc = 0 ∨ cc = 1) (hd : (d = -1 ∧ (f = -1 ∨ f = 0)) ∨ (d = 0 ∧ f = 0) ∨ (d = 1 ∧ (f = 1 ∨ f = 0))) (lo : List (Nat × AV)) (b1 b3 : Option Blk) {wr : List Nat} {Q : Ex → StW → Prop}
    (hQ : ∀ s : StW, s.s.dfs = [] → s.s.pe[5]? = some (.bool true) → True = True → Q .ret s) :
    W M t11c ⟨⟨[a0, a1, a2, .ptr 0 0, a4, .bool false, .ptr 2 0, a7, a8, a9, .int .i64 s, a11, .int .i64 aw, .ptr 4 0, .int .i64 0, .int .i64 cc, .int .i64 0, .int .i64 d, .int .i64 0, .int .i64 f, .int .i64 0, undefA, undefA, undefA], lo, [some (.cells [k, .int .i64 v, r] 49), b1, some (.cells [.str kx, .int .i64 x, .str rx] 49), b3, some (.cells [.str kx, .int .i64 x, .str rx] 49)], []⟩, wr⟩ Q := by
  unfold t11c
  rcases hc with rfl | rfl <;> rcases hd with ⟨rfl, rfl | rfl⟩ | ⟨rfl, rfl⟩ | ⟨rfl, rfl | rfl⟩
  all_goals
    repeat' first | (apply WO.eqN; exact rfl; exact rfl) | (exact tail11d C v h0 h1 _ _ _ _ _ _ _ _ _ _ _ _ _ _ _ _ _ _ _ _ _ _ _ hQ) | apply W.seq | apply SQn | apply W.region | apply WO.nil | apply W.block | apply W.ret | apply W.exit | apply W.skip | apply SQr | apply SQe | apply BQn | apply BQr | apply BQe | (apply BQo; exact rfl) | apply LQe | apply LQr | (apply W.condT; exact rfl) | (apply W.condF; exact rfl) | (apply W.cond; exact rfl; all_goals intro _) | (apply WO.gT; exact rfl) | (apply WO.gF; exact rfl) | (apply WO.sT; exact rfl) | (apply WO.sF; exact rfl) | (apply WO.sU; exact rfl) | (apply WO.lss; exact rfl; exact rfl; all_goals first | (intro _; exfalso; omega) | intro _) | (apply WO.geq; exact rfl; exact rfl; all_goals first | (intro _; exfalso; omega) | intro _) | (apply WO.eql; exact rfl; exact rfl; all_goals first | (intro _; exfalso; omega) | intro _) | (apply WO.neq; exact rfl; exact rfl; all_goals first | (intro _; exfalso; omega) | intro _) | (apply WO.pkT; exact rfl; exact rfl) | (apply WO.pkF; exact rfl; exact rfl) | (apply WO.add; exact rfl; exact rfl; omega) | (apply WO.sub; exact rfl; exact rfl; omega) | (apply WO.mul; exact rfl; exact rfl; omega) | (apply WO.remp; exact rfl; exact rfl; omega; intro _ _) | (apply WO.remn; exact rfl; exact rfl; omega; intro _ _) | (apply WO.rem; exact rfl; exact rfl; omega) | (apply WO.seql; exact rfl; exact rfl; all_goals first | (intro h; exact absurd h (by decide)) | (intro h; exact absurd rfl h) | (intro h; contradiction) | intro _) | (apply WO.sneq; exact rfl; exact rfl; all_goals first | (intro h; exact absurd h (by decide)) | (intro h; exact absurd rfl h) | (intro h; contradiction) | intro _) | (apply WO.clb; exact rfl; exact rfl; exact rfl; all_goals first | (intro h; exact absurd h (by decide)) | intro _) | (apply WO.cll; exact rfl; exact rfl; exact rfl) | (apply WO.neg; exact rfl; omega) | (apply WO.hlv; exact rfl; exact rfl; exact rfl) | (apply WO.hpv; exact rfl; exact rfl; exact rfl) | (apply WO.hnv; exact rfl; exact rfl; exact rfl) | (apply WO.pl; exact rfl; exact rfl) | (apply WO.pp; exact rfl; exact rfl)

set_option maxHeartbeats 4000000 in
theorem tail11b {M : Mach} (C : Calls11 M) (k c : List UInt8) (v v' x y s cc d f : Int) (hk : (k = sTime ∧ 0 ≤ x - v ∧ x - v < s) ∨ (k = sLength ∧ 0 ≤ v - x ∧ v - x < s)) (h0 : 0 ≤ v) (h1 : v ≤ 863999999) (hs : 0 < s) (hx : x % s = 0) (hx1 : 0 ≤ x) (hx2 : x ≤ 863999999)
    (hA : ∀ h, M.ext 40 [mkM k x [], .str c] h = some ⟨.tup [mkM k x [], .int .i64 0], h, []⟩)
    (hC1 : ∀ h, M.ext 37 [mkM k x [], mkM k v []] h = some ⟨.tup [.int .i64 cc, .int .i64 0], h, []⟩)
    (hC2 : ∀ h, M.ext 37 [mkM k v [], mkM k v' []] h = some ⟨.tup [.int .i64 d, .int .i64 0], h, []⟩)
    (hC3 : ∀ h, M.ext 37 [mkM k x [], mkM k y []] h = some ⟨.tup [.int .i64 f, .int .i64 0], h, []⟩)
    (hc : cc = 0 ∨ cc = 1) (hd : (d = -1 ∧ (f = -1 ∨ f = 0)) ∨ (d = 0 ∧ f = 0) ∨ (d = 1 ∧ (f = 1 ∨ f = 0)))
    (a0 a1 a11 : AV) (lo : List (Nat × AV)) {wr : List Nat} {Q : Ex → StW → Prop}
    (hQ : ∀ s : StW, s.s.dfs = [] → s.s.pe[5]? = some (.bool true) → True = True → Q .ret s) :
    W M t11b ⟨⟨[a0, a1, .str c, .ptr 0 0, .ptr 1 0, .bool false, .ptr 2 0, .int .i64 0, .ptr 3 0, .int .i64 0, .int .i64 s, a11, undefA, undefA, undefA, undefA, undefA, undefA, undefA, undefA, undefA, undefA, undefA, undefA], lo, [some (.cells [.str k, .int .i64 v, .str []] 49), some (.cells [.str k, .int .i64 v', .str []] 49), some (.cells [.str k, .int .i64 x, .str []] 49), some (.cells [.str k, .int .i64 y, .str []] 49)], []⟩, wr⟩ Q := by
  unfold t11b
  rcases hk with ⟨rfl, g1, g2⟩ | ⟨rfl, g1, g2⟩
  all_goals
    repeat' first | (exact tail11c C v h0 h1 _ _ _ _ _ _ _ _ _ _ _ _ _ _ _ _ _ _ (by omega) (by omega) hc hd _ _ _ hQ) | apply W.seq | apply SQn | apply W.region | apply WO.nil | apply W.block | apply W.ret | apply W.exit | apply W.skip | apply SQr | apply SQe | apply BQn | apply BQr | apply BQe | (apply BQo; exact rfl) | apply LQe | apply LQr | (apply W.condT; exact rfl) | (apply W.condF; exact rfl) | (apply W.cond; exact rfl; all_goals intro _) | (apply WO.gT; exact rfl) | (apply WO.gF; exact rfl) | (apply WO.sT; exact rfl) | (apply WO.sF; exact rfl) | (apply WO.sU; exact rfl) | (apply WO.lss; exact rfl; exact rfl; all_goals first | (intro _; exfalso; omega) | intro _) | (apply WO.geq; exact rfl; exact rfl; all_goals first | (intro _; exfalso; omega) | intro _) | (apply WO.eql; exact rfl; exact rfl; all_goals first | (intro _; exfalso; omega) | intro _) | (apply WO.neq; exact rfl; exact rfl; all_goals first | (intro _; exfalso; omega) | intro _) | (apply WO.pkT; exact rfl; exact rfl) | (apply WO.pkF; exact rfl; exact rfl) | (apply WO.add; exact rfl; exact rfl; omega) | (apply WO.sub; exact rfl; exact rfl; omega) | (apply WO.mul; exact rfl; exact rfl; omega) | (apply WO.remp; exact rfl; exact rfl; omega; intro _ _) | (apply WO.remn; exact rfl; exact rfl; omega; intro _ _) | (apply WO.rem; exact rfl; exact rfl; omega) | (apply WO.cll; exact rfl; exact rfl; first | exact hA _ | exact hC1 _ | exact hC2 _ | exact hC3 _) | (apply WO.seql; exact rfl; exact rfl; all_goals first | (intro h; exact absurd h (by decide)) | (intro h; exact absurd rfl h) | (intro h; contradiction) | intro _) | (apply WO.sneq; exact rfl; exact rfl; all_goals first | (intro h; exact absurd h (by decide)) | (intro h; exact absurd rfl h) | (intro h; contradiction) | intro _) | (apply WO.clb; exact rfl; exact rfl; exact rfl; all_goals first | (intro h; exact absurd h (by decide)) | intro _) | (apply WO.cll; exact rfl; exact rfl; exact rfl) | (apply WO.neg; exact rfl; omega) | (apply WO.hlv; exact rfl; exact rfl; exact rfl) | (apply WO.hpv; exact rfl; exact rfl; exact rfl) | (apply WO.hnv; exact rfl; exact rfl; exact rfl) | (apply WO.pl; exact rfl; exact rfl) | (apply WO.pp; exact rfl; exact rfl)

theorem roundE_ok {k c : List UInt8} {v : Int} (hv : chk k v [] = 0) : roundE k v [] c = 0 ∨ roundE k v [] c = 13 ∨ roundE k v [] c = 4 := by
  unfold roundE
  rw [if_neg (by simpa using hv)]
  repeat' split
  all_goals simp

set_option maxHeartbeats 4000000 in
theorem tail11 {M : Mach} (C : Calls11 M) (k c : List UInt8) (v v' : Int) (hk : k = sTime ∨ k = sLength) (hA : chk k v [] = 0) (hB : chk k v' [] = 0) (a0 a1 : AV) (lo : List (Nat × AV)) {wr : List Nat} {Q : Ex → StW → Prop}
    (hQ : ∀ s : StW, s.s.dfs = [] → s.s.pe[5]? = some (.bool true) → True = True → Q .ret s) :
    W M t11 ⟨⟨[a0, a1, .str c, .ptr 0 0, .ptr 1 0, .bool false, undefA, undefA, undefA, undefA, undefA, undefA, undefA, undefA, undefA, undefA, undefA, undefA, undefA, undefA, undefA, undefA, undefA, undefA], lo, [some (.cells [.str k, .int .i64 v, .str []] 49), some (.cells [.str k, .int .i64 v', .str []] 49)], []⟩, wr⟩ Q := by
  have hX := C.c40 k v [] c
  have hY := C.c40 k v' [] c
  have hS := C.c69 c
  have h1 : ∀ h, M.ext 70 [.int .i64 (roundE k v [] c)] h = some ⟨.bool true, h, []⟩ := fun h => by rw [C.c70, decide_eq_true (roundE_ok hA)]
  have h2 : ∀ h, M.ext 70 [.int .i64 (roundE k v' [] c)] h = some ⟨.bool true, h, []⟩ := fun h => by rw [C.c70, decide_eq_true (roundE_ok hB)]
  unfold t11
  by_cases e1 : roundE k v [] c = 0 ∧ roundE k v' [] c = 0
  · obtain ⟨e1, e2⟩ := e1
    obtain ⟨s, x, f1, f2, f3, f4, f5, f6, f7, f8, f9, f10, f11⟩ := round_facts hk hA e1
    obtain ⟨s', y, g1, g2, g3, g4, g5, g6, g7, g8, g9, g10, g11⟩ := round_facts hk hB e2
    obtain rfl : s = s' := by rw [← f2, g2]
    rw [f5] at hX
    rw [g5] at hY
    rw [f1] at hS
    obtain ⟨q1, q2⟩ := cmp_facts hk f3 f4 g4 f7 f8 g7 g8 f9 f10 g9 g10
    have bd : 0 ≤ kLeast k ∧ kMost k ≤ 863999999 := by rcases hk with rfl | rfl <;> decide
    have cE : ∀ u w, chk k u [] = 0 → chk k w [] = 0 → cmpE k u [] k w [] = 0 := fun u w hu hw => by simp [cmpE, firstNZ, hu, hw, differ]
    have hc : ∀ u w h, chk k u [] = 0 → chk k w [] = 0 → M.ext 37 [mkM k u [], mkM k w []] h = some ⟨.tup [.int .i64 (cmpW (worth k u) (worth k w)), .int .i64 0], h, []⟩ := fun u w h hu hw => by rw [C.c37, cE u w hu hw]; rfl
    have hcx := chk_of hk f9 f10
    have hcy := chk_of hk g9 g10
    have hR : ∀ h, M.ext 40 [mkM k x [], .str c] h = some ⟨.tup [mkM k x [], .int .i64 0], h, []⟩ := fun h => by rw [C.c40, round_again hk f2 f3 f6 f9 f10]
    repeat' first | (exact tail11b C k c v v' x y s _ _ _ f11 (by omega) (by omega) (by omega) f6 (by omega) (by omega) hR (fun h => hc _ _ h hcx hA) (fun h => hc _ _ h hA hB) (fun h => hc _ _ h hcx hcy) q1 q2 _ _ _ _ hQ) | apply W.seq | apply SQn | apply W.region | apply WO.nil | apply W.block | apply W.ret | apply W.exit | apply W.skip | apply SQr | apply SQe | apply BQn | apply BQr | apply BQe | (apply BQo; exact rfl) | apply LQe | apply LQr | (apply W.condT; exact rfl) | (apply W.condF; exact rfl) | (apply W.cond; exact rfl; all_goals intro _) | (apply WO.gT; exact rfl) | (apply WO.gF; exact rfl) | (apply WO.sT; exact rfl) | (apply WO.sF; exact rfl) | (apply WO.sU; exact rfl) | (apply WO.lss; exact rfl; exact rfl; all_goals first | (intro _; exfalso; omega) | intro _) | (apply WO.geq; exact rfl; exact rfl; all_goals first | (intro _; exfalso; omega) | intro _) | (apply WO.eql; exact rfl; exact rfl; all_goals first | (intro _; exfalso; omega) | intro _) | (apply WO.neq; exact rfl; exact rfl; all_goals first | (intro _; exfalso; omega) | intro _) | (apply WO.pkT; exact rfl; exact rfl) | (apply WO.pkF; exact rfl; exact rfl) | (apply WO.add; exact rfl; exact rfl; omega) | (apply WO.sub; exact rfl; exact rfl; omega) | (apply WO.mul; exact rfl; exact rfl; omega) | (apply WO.remp; exact rfl; exact rfl; omega; intro _ _) | (apply WO.remn; exact rfl; exact rfl; omega; intro _ _) | (apply WO.rem; exact rfl; exact rfl; omega) | (apply WO.cll; exact rfl; exact rfl; first | exact hX _ | exact hY _ | exact hS _) | (apply WO.seql; exact rfl; exact rfl; all_goals first | (intro h; exact absurd h (by decide)) | (intro h; exact absurd rfl h) | (intro h; contradiction) | intro _) | (apply WO.sneq; exact rfl; exact rfl; all_goals first | (intro h; exact absurd h (by decide)) | (intro h; exact absurd rfl h) | (intro h; contradiction) | intro _) | (apply WO.clb; exact rfl; exact rfl; exact rfl; all_goals first | (intro h; exact absurd h (by decide)) | intro _) | (apply WO.cll; exact rfl; exact rfl; exact rfl) | (apply WO.neg; exact rfl; omega) | (apply WO.hlv; exact rfl; exact rfl; exact rfl) | (apply WO.hpv; exact rfl; exact rfl; exact rfl) | (apply WO.hnv; exact rfl; exact rfl; exact rfl) | (apply WO.pl; exact rfl; exact rfl) | (apply WO.pp; exact rfl; exact rfl)
  · repeat' first | apply W.seq | apply SQn | apply W.region | apply WO.nil | apply W.block | apply W.ret | apply W.exit | apply W.skip | apply SQr | apply SQe | apply BQn | apply BQr | apply BQe | (apply BQo; exact rfl) | apply LQe | apply LQr | (apply W.condT; exact rfl) | (apply W.condF; exact rfl) | (apply W.cond; exact rfl; all_goals intro _) | (apply WO.gT; exact rfl) | (apply WO.gF; exact rfl) | (apply WO.sT; exact rfl) | (apply WO.sF; exact rfl) | (apply WO.sU; exact rfl) | (apply WO.lss; exact rfl; exact rfl; all_goals first | (intro _; exfalso; omega) | intro _) | (apply WO.geq; exact rfl; exact rfl; all_goals first | (intro _; exfalso; omega) | intro _) | (apply WO.eql; exact rfl; exact rfl; all_goals first | (intro _; exfalso; omega) | intro _) | (apply WO.neq; exact rfl; exact rfl; all_goals first | (intro _; exfalso; omega) | intro _) | (apply WO.pkT; exact rfl; exact rfl) | (apply WO.pkF; exact rfl; exact rfl) | (apply WO.add; exact rfl; exact rfl; omega) | (apply WO.sub; exact rfl; exact rfl; omega) | (apply WO.mul; exact rfl; exact rfl; omega) | (apply WO.remp; exact rfl; exact rfl; omega; intro _ _) | (apply WO.remn; exact rfl; exact rfl; omega; intro _ _) | (apply WO.rem; exact rfl; exact rfl; omega) | (apply WO.cll; exact rfl; exact rfl; first | exact hX _ | exact hY _ | exact hS _ | exact h1 _ | exact h2 _) | (apply WO.seql; exact rfl; exact rfl; all_goals first | (intro h; exact absurd h (by decide)) | (intro h; exact absurd rfl h) | (intro h; contradiction) | intro _) | (apply WO.sneq; exact rfl; exact rfl; all_goals first | (intro h; exact absurd h (by decide)) | (intro h; exact absurd rfl h) | (intro h; contradiction) | intro _) | (apply WO.clb; exact rfl; exact rfl; exact rfl; all_goals first | (intro h; exact absurd h (by decide)) | intro _) | (apply WO.cll; exact rfl; exact rfl; exact rfl) | (apply WO.neg; exact rfl; omega) | (apply WO.hlv; exact rfl; exact rfl; exact rfl) | (apply WO.hpv; exact rfl; exact rfl; exact rfl) | (apply WO.hnv; exact rfl; exact rfl; exact rfl) | (apply WO.pl; exact rfl; exact rfl) | (apply WO.pp; exact rfl; exact rfl)
    all_goals first | exact hQ _ rfl rfl rfl | exact absurd ⟨by assumption, by assumption⟩ e1

set_option maxHeartbeats 4000000 in
theorem w11 {M : Mach} (hft : M.FT = FT) (C : Calls11 M) (k : List UInt8) (v : Int) (r : List UInt8) (k' : List UInt8) (v' : Int) (r' c : List UInt8) : Run M 11 [mkM k v r, mkM k' v' r', .str c] [] ⟨.bool true, [], []⟩ := by
  have b1 := C.c34 k v r
  have b2 := C.c34 k' v' r'
  have q1 := C.c35 k v r
  have q2 := C.c35 k' v' r'
  refine run_of_W (by rw [hft]; exact ft11) (by simp) ?_
  have hEnd : ∀ s : StW, s.s.dfs = [] → s.s.pe[5]? = some (.bool true) → True = True → ((fun (e : Ex) (s : StW) => (e = .normal ∨ e = .ret) ∧ s.s.dfs = [] ∧ ∃ vs, resultsA s.s [.var (.p 5)] = some vs ∧ tupA vs = .bool true ∧ (if (AV.bool true).top ≤ 0 then [] else s.s.hp) = []) Ex.ret s) := fun s h1 h2 _ =>
    ⟨.inr rfl, h1, [.bool true], by simp only [resultsA, St.opd, h2], rfl, rfl⟩
  unfold b11
  simp only [List.map_cons, List.map_nil, List.getElem?_cons_zero, List.getElem?_cons_succ, List.getElem?_nil, Option.getD_some, Option.getD_none]
  by_cases hg : chk k v r = 0 ∧ chk k' v' r' = 0 ∧ k = k' ∧ k ≠ sNone ∧ k ≠ sPoints
  · obtain ⟨hA, hB, rfl, n1, n2⟩ := hg
    have hk : k = sTime ∨ k = sLength := by
      have := (chk_zero hA).resolve_left fun h => n1 h.1
      rcases this.2.1 with h | h | h
      · exact .inl h
      · exact .inr h
      · exact absurd h n2
    obtain rfl : r = [] := ((chk_zero hA).resolve_left fun h => n1 h.1).2.2.1
    obtain rfl : r' = [] := ((chk_zero hB).resolve_left fun h => n1 h.1).2.2.1
    rw [hA] at q1
    rw [hB] at q2
    cases e1 : decide (k.length ≤ 40 ∧ ([] : List UInt8).length ≤ 40) <;> rw [e1] at b1 <;> cases e2 : decide (k.length ≤ 40 ∧ ([] : List UInt8).length ≤ 40) <;> rw [e2] at b2
    all_goals
      repeat' first | (exact tail11 C k c v v' hk hA hB _ _ _ hEnd) | apply W.seq | apply SQn | apply W.region | apply WO.nil | apply W.block | apply W.ret | apply W.exit | apply W.skip | apply SQr | apply SQe | apply BQn | apply BQr | apply BQe | (apply BQo; exact rfl) | apply LQe | apply LQr | (apply W.condT; exact rfl) | (apply W.condF; exact rfl) | (apply W.cond; exact rfl; all_goals intro _) | (apply WO.gT; exact rfl) | (apply WO.gF; exact rfl) | (apply WO.sT; exact rfl) | (apply WO.sF; exact rfl) | (apply WO.sU; exact rfl) | (apply WO.lss; exact rfl; exact rfl; all_goals first | (intro _; exfalso; omega) | intro _) | (apply WO.gtr; exact rfl; exact rfl; all_goals first | (intro _; exfalso; omega) | intro _) | (apply WO.geq; exact rfl; exact rfl; all_goals first | (intro _; exfalso; omega) | intro _) | (apply WO.eql; exact rfl; exact rfl; all_goals first | (intro _; exfalso; omega) | intro _) | (apply WO.neq; exact rfl; exact rfl; all_goals first | (intro _; exfalso; omega) | intro _) | (apply WO.pkT; exact rfl; exact rfl) | (apply WO.pkF; exact rfl; exact rfl) | (apply WO.add; exact rfl; exact rfl; omega) | (apply WO.sub; exact rfl; exact rfl; omega) | (apply WO.mul; exact rfl; exact rfl; omega) | (apply WO.remp; exact rfl; exact rfl; omega; intro _ _) | (apply WO.remn; exact rfl; exact rfl; omega; intro _ _) | (apply WO.rem; exact rfl; exact rfl; omega) | (apply WO.cll; exact rfl; exact rfl; first | exact C.c18 _ | exact b1 _ | exact b2 _ | exact q1 _ | exact q2 _) | (apply WO.seql; exact rfl; exact rfl; all_goals first | (intro h; exact absurd h (by decide)) | (intro h; exact absurd rfl h) | (intro h; contradiction) | intro _) | (apply WO.sneq; exact rfl; exact rfl; all_goals first | (intro h; exact absurd h (by decide)) | (intro h; exact absurd rfl h) | (intro h; contradiction) | intro _) | (apply WO.clb; exact rfl; exact rfl; exact rfl; all_goals first | (intro h; exact absurd h (by decide)) | intro _) | (apply WO.cll; exact rfl; exact rfl; exact rfl) | (apply WO.neg; exact rfl; omega) | (apply WO.hlv; exact rfl; exact rfl; exact rfl) | (apply WO.hpv; exact rfl; exact rfl; exact rfl) | (apply WO.hnv; exact rfl; exact rfl; exact rfl) | (apply WO.pl; exact rfl; exact rfl) | (apply WO.pp; exact rfl; exact rfl)
    all_goals first | exact hEnd _ rfl rfl rfl | skip
  · cases e1 : decide (k.length ≤ 40 ∧ r.length ≤ 40) <;> rw [e1] at b1 <;> cases e2 : decide (k'.length ≤ 40 ∧ r'.length ≤ 40) <;> rw [e2] at b2
    all_goals
      repeat' first | apply W.seq | apply SQn | apply W.region | apply WO.nil | apply W.block | apply W.ret | apply W.exit | apply W.skip | apply SQr | apply SQe | apply BQn | apply BQr | apply BQe | (apply BQo; exact rfl) | apply LQe | apply LQr | (apply W.condT; exact rfl) | (apply W.condF; exact rfl) | (apply W.cond; exact rfl; all_goals intro _) | (apply WO.gT; exact rfl) | (apply WO.gF; exact rfl) | (apply WO.sT; exact rfl) | (apply WO.sF; exact rfl) | (apply WO.sU; exact rfl) | (apply WO.lss; exact rfl; exact rfl; all_goals first | (intro _; exfalso; omega) | intro _) | (apply WO.gtr; exact rfl; exact rfl; all_goals first | (intro _; exfalso; omega) | intro _) | (apply WO.geq; exact rfl; exact rfl; all_goals first | (intro _; exfalso; omega) | intro _) | (apply WO.eql; exact rfl; exact rfl; all_goals first | (intro _; exfalso; omega) | intro _) | (apply WO.neq; exact rfl; exact rfl; all_goals first | (intro _; exfalso; omega) | intro _) | (apply WO.pkT; exact rfl; exact rfl) | (apply WO.pkF; exact rfl; exact rfl) | (apply WO.add; exact rfl; exact rfl; omega) | (apply WO.sub; exact rfl; exact rfl; omega) | (apply WO.mul; exact rfl; exact rfl; omega) | (apply WO.remp; exact rfl; exact rfl; omega; intro _ _) | (apply WO.remn; exact rfl; exact rfl; omega; intro _ _) | (apply WO.rem; exact rfl; exact rfl; omega) | (apply WO.cll; exact rfl; exact rfl; first | exact C.c18 _ | exact b1 _ | exact b2 _ | exact q1 _ | exact q2 _) | (apply WO.seql; exact rfl; exact rfl; all_goals first | (intro h; exact absurd h (by decide)) | (intro h; exact absurd rfl h) | (intro h; contradiction) | intro _) | (apply WO.sneq; exact rfl; exact rfl; all_goals first | (intro h; exact absurd h (by decide)) | (intro h; exact absurd rfl h) | (intro h; contradiction) | intro _) | (apply WO.clb; exact rfl; exact rfl; exact rfl; all_goals first | (intro h; exact absurd h (by decide)) | intro _) | (apply WO.cll; exact rfl; exact rfl; exact rfl) | (apply WO.neg; exact rfl; omega) | (apply WO.hlv; exact rfl; exact rfl; exact rfl) | (apply WO.hpv; exact rfl; exact rfl; exact rfl) | (apply WO.hnv; exact rfl; exact rfl; exact rfl) | (apply WO.pl; exact rfl; exact rfl) | (apply WO.pp; exact rfl; exact rfl)
    all_goals first | exact hEnd _ rfl rfl rfl | exact absurd ⟨by assumption, by assumption, by assumption, by assumption, by assumption⟩ hg

end Go.Ab.Ch1

