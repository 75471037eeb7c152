/-
  Own work: the resolved code of some functions of chapter 5: starts.
-/
import Derived.Test.YtmngppcmhfhgaaaGreatDoorCh5Base
import Derived.Test.YtmngppcmhfhgaaaGreatDoorLib2
import Derived.Test.YtmngppcmhfhgaaaGreatDoorCh5Row
namespace Go.Ab.Ch5

/-- stadion/stadionlaw05.FinishStarts -/
def b7 : ICode :=
 .seq (.region [⟨(.p 3), .box 77 2 (.p 1), none⟩,
    ⟨(.p 4), .mv (.c (.bool false)), none⟩])
  (.seq (.seq (.region [⟨(.l 13), .call (.c (.fn (.func 15) [] [])) [], none⟩,
      ⟨(.l 14), .un .not (.l 13), none⟩,
      ⟨(.l 15), .mv (.l 14), none⟩,
      ⟨(.l 16), .mv (.p 0), some ((.l 15), false)⟩,
      ⟨(.l 17), .len .sl (.l 16), some ((.l 15), false)⟩,
      ⟨(.l 18), .bin .gtr (.l 17) (.c (.int .i64 (40))), some ((.l 15), false)⟩,
      ⟨(.l 19), .mv (.l 18), some ((.l 15), false)⟩,
      ⟨(.l 20), .mv (.p 0), some ((.l 19), true)⟩,
      ⟨(.l 21), .len .sl (.l 20), some ((.l 19), true)⟩,
      ⟨(.l 22), .bin .leq (.l 21) (.c (.int .i64 (1000))), some ((.l 19), true)⟩,
      ⟨(.l 23), .pick (.l 19) (.l 22) (.c (.bool false)), some ((.l 15), false)⟩,
      ⟨(.l 24), .pick (.l 15) (.c (.bool true)) (.l 23), none⟩,
      ⟨(.l 25), .mv (.l 24), none⟩,
      ⟨(.l 26), .mv (.p 0), some ((.l 25), false)⟩,
      ⟨(.l 27), .len .sl (.l 26), some ((.l 25), false)⟩,
      ⟨(.l 28), .bin .gtr (.l 27) (.c (.int .i64 (1004))), some ((.l 25), false)⟩,
      ⟨(.l 29), .pick (.l 25) (.c (.bool true)) (.l 28), none⟩,
      ⟨(.l 30), .mv (.l 29), none⟩,
      ⟨(.l 31), .mv (.p 2), some ((.l 30), false)⟩,
      ⟨(.l 32), .len .sl (.l 31), some ((.l 30), false)⟩,
      ⟨(.l 33), .bin .gtr (.l 32) (.c (.int .i64 (20))), some ((.l 30), false)⟩,
      ⟨(.l 34), .pick (.l 30) (.c (.bool true)) (.l 33), none⟩])
    (.cond (.l 34)
     (.seq (.region [⟨(.l 35), .call (.c (.fn (.func 15) [] [])) [], none⟩,
        ⟨(.p 4), .mv (.l 35), none⟩])
      (.ret))
     (.skip)))
   (.seq (.region [⟨(.l 37), .mv (.p 0), none⟩,
      ⟨(.l 38), .iaddr (some 2) 1 (.p 3) (.c (.int .i64 (0))), none⟩,
      ⟨(.l 39), .load 1 false (.l 38), none⟩,
      ⟨(.l 40), .iaddr (some 2) 1 (.p 3) (.c (.int .i64 (1))), none⟩,
      ⟨(.l 41), .load 1 false (.l 40), none⟩,
      ⟨(.l 42), .call (.c (.fn (.func 39) [] [])) [(.l 37), (.l 39), (.l 41)], none⟩,
      ⟨(.l 36), .mv (.l 42), none⟩,
      ⟨(.l 43), .extract 0 (.l 36), none⟩,
      ⟨(.l 44), .extract 1 (.l 36), none⟩,
      ⟨(.p 5), .mv (.l 43), none⟩,
      ⟨(.p 6), .mv (.l 44), none⟩])
    (.seq (.region [⟨(.l 45), .mv (.p 0), none⟩,
       ⟨(.l 46), .iaddr (some 2) 1 (.p 3) (.c (.int .i64 (0))), none⟩,
       ⟨(.l 47), .load 1 false (.l 46), none⟩,
       ⟨(.l 48), .iaddr (some 2) 1 (.p 3) (.c (.int .i64 (1))), none⟩,
       ⟨(.l 49), .load 1 false (.l 48), none⟩,
       ⟨(.l 50), .call (.c (.fn (.func 40) [] [])) [(.l 45), (.l 47), (.l 49)], none⟩,
       ⟨(.p 7), .mv (.l 50), none⟩])
     (.seq (.region [⟨(.p 8), .mv (.c (.int .i64 (0))), none⟩])
      (.seq (.seq (.region [⟨(.l 51), .mv (.p 7), none⟩,
          ⟨(.l 52), .bin .eql (.l 51) (.c (.int .i64 (0))), none⟩])
        (.cond (.l 52)
         (.seq (.region [⟨(.l 53), .mv (.p 0), none⟩,
            ⟨(.l 54), .iaddr (some 2) 1 (.p 3) (.c (.int .i64 (0))), none⟩,
            ⟨(.l 55), .load 1 false (.l 54), none⟩,
            ⟨(.l 56), .iaddr (some 2) 1 (.p 3) (.c (.int .i64 (1))), none⟩,
            ⟨(.l 57), .load 1 false (.l 56), none⟩,
            ⟨(.l 58), .call (.c (.fn (.func 41) [] [])) [(.l 53), (.l 55), (.l 57)], none⟩,
            ⟨(.p 8), .mv (.l 58), none⟩])
          (.region [⟨(.l 59), .mv (.p 8), none⟩,
            ⟨(.l 60), .bin .lss (.l 59) (.c (.int .i64 (0))), none⟩,
            ⟨(.l 61), .call (.c (.fn (.func 20) [] [])) [(.l 60), (.c (.int .i64 (7)))], none⟩,
            ⟨(.p 7), .mv (.l 61), none⟩]))
         (.skip)))
       (.seq (.seq (.region [⟨(.l 62), .mv (.p 5), none⟩,
           ⟨(.l 63), .mv (.p 6), none⟩,
           ⟨(.l 64), .mv (.p 7), none⟩,
           ⟨(.l 65), .mv (.p 8), none⟩,
           ⟨(.l 66), .call (.c (.fn (.func 42) [] [])) [(.l 62), (.l 63), (.l 64), (.l 65)], none⟩,
           ⟨(.l 67), .un .not (.l 66), none⟩])
         (.cond (.l 67)
          (.seq (.region [⟨(.p 4), .mv (.c (.bool false)), none⟩])
           (.ret))
          (.skip)))
        (.seq (.region [⟨(.l 69), .mv (.p 2), none⟩,
           ⟨(.l 70), .call (.c (.fn (.func 43) [] [])) [(.l 69)], none⟩,
           ⟨(.l 68), .mv (.l 70), none⟩,
           ⟨(.l 71), .extract 0 (.l 68), none⟩,
           ⟨(.l 72), .extract 1 (.l 68), none⟩,
           ⟨(.p 9), .mv (.l 71), none⟩,
           ⟨(.p 10), .mv (.l 72), none⟩])
         (.seq (.region [⟨(.l 73), .mv (.p 9), none⟩,
            ⟨(.l 74), .mv (.p 10), none⟩,
            ⟨(.l 75), .mv (.p 2), none⟩,
            ⟨(.l 76), .call (.c (.fn (.func 45) [] [])) [(.l 75)], none⟩,
            ⟨(.l 77), .mv (.p 2), none⟩,
            ⟨(.l 78), .call (.c (.fn (.func 46) [] [])) [(.l 77)], none⟩,
            ⟨(.l 79), .call (.c (.fn (.func 44) [] [])) [(.l 73), (.l 74), (.l 76), (.l 78)], none⟩,
            ⟨(.p 4), .mv (.l 79), none⟩])
          (.ret)))))))))
theorem ft7 : FT 7 = some ⟨80, [0, 1, 2, 4, 6, 7, 8, 9, 10, 11, 12], [.var (.p 4)], b7⟩ := by kernel_rfl

/-- stadion/stadionlaw05.when -/
def b20 : ICode :=
 .seq (.region [⟨(.p 2), .mv (.c (.int .i64 (0))), none⟩])
  (.seq (.seq (.region [⟨(.l 5), .mv (.p 0), none⟩])
    (.cond (.l 5)
     (.seq (.region [⟨(.l 6), .mv (.p 1), none⟩,
        ⟨(.p 2), .mv (.l 6), none⟩])
      (.ret))
     (.skip)))
   (.seq (.region [⟨(.p 2), .mv (.c (.int .i64 (0))), none⟩])
    (.ret)))
theorem ft20 : FT 20 = some ⟨7, [0, 1, 4], [.var (.p 2)], b20⟩ := by kernel_rfl

/-- stadion/finish.Reaction -/
def b39 : ICode :=
 .seq (.region [⟨(.p 3), .box 3 1 (.p 2), none⟩,
    ⟨(.p 4), .mv (.c (.int .i64 (0))), none⟩,
    ⟨(.p 5), .mv (.c (.int .i64 (0))), none⟩])
  (.seq (.region [⟨(.l 11), .mv (.p 0), none⟩,
     ⟨(.l 12), .call (.c (.fn (.func 119) [] [])) [(.l 11), (.c (.fn (.func 120) [] []))], none⟩,
     ⟨(.p 6), .mv (.l 12), none⟩])
   (.seq (.seq (.draw [(⟨(.l 13), .mv (.p 0), none⟩, []),
       (⟨(.l 14), .len .sl (.l 13), none⟩, []),
       (⟨(.l 15), .bin .gtr (.l 14) (.c (.int .i64 (1000))), none⟩, []),
       (⟨(.l 16), .call (.c (.fn (.func 91) [] [])) [(.l 15), (.c (.int .i64 (5)))], none⟩, []),
       (⟨(.l 17), .mv (.p 6), none⟩, [0, 1, 2, 3]),
       (⟨(.l 18), .call (.c (.fn (.func 91) [] [])) [(.l 17), (.c (.int .i64 (3)))], none⟩, []),
       (⟨(.l 19), .mv (.p 1), none⟩, [0, 1, 2, 3, 4, 5]),
       (⟨(.l 20), .call (.c (.fn (.func 121) [] [])) [(.l 19), (.c (.int .i64 (1))), (.c (.int .i64 (10000)))], none⟩, []),
       (⟨(.l 21), .load 1 false (.p 3), none⟩, [0, 1, 2, 3, 4, 5, 6, 7]),
       (⟨(.l 22), .call (.c (.fn (.func 121) [] [])) [(.l 21), (.c (.int .i64 (0))), (.c (.int .i64 (999999999)))], none⟩, []),
       (⟨(.l 23), .bslice 28 4 1 [.int .i64 (0)] [(0, 1, (.l 16)), (1, 1, (.l 18)), (2, 1, (.l 20)), (3, 1, (.l 22))], none⟩, []),
       (⟨(.l 24), .call (.c (.fn (.func 90) [] [])) [(.l 23)], none⟩, []),
       (⟨(.p 7), .mv (.l 24), none⟩, [])])
     (.seq (.region [⟨(.l 25), .mv (.p 7), none⟩,
        ⟨(.l 26), .bin .neq (.l 25) (.c (.int .i64 (0))), none⟩])
      (.cond (.l 26)
       (.seq (.region [⟨(.l 27), .mv (.p 7), none⟩,
          ⟨(.p 4), .mv (.c (.int .i64 (0))), none⟩,
          ⟨(.p 5), .mv (.l 27), none⟩])
        (.ret))
       (.skip))))
    (.seq (.region [⟨(.l 28), .mv (.p 0), none⟩,
       ⟨(.l 29), .mkfn (.func 123) [] [(.p 3)], none⟩,
       ⟨(.l 30), .call (.c (.fn (.func 122) [] [])) [(.l 28), (.l 29)], none⟩,
       ⟨(.p 8), .mv (.l 30), none⟩])
     (.seq (.seq (.region [⟨(.l 31), .mv (.p 8), none⟩,
         ⟨(.l 32), .bin .lss (.l 31) (.c (.int .i64 (0))), none⟩])
       (.cond (.l 32)
        (.seq (.region [⟨(.p 4), .mv (.c (.int .i64 (0))), none⟩,
           ⟨(.p 5), .mv (.c (.int .i64 (7))), none⟩])
         (.ret))
        (.skip)))
      (.seq (.region [⟨(.l 33), .mv (.p 8), none⟩,
         ⟨(.l 34), .mv (.p 1), none⟩,
         ⟨(.l 35), .bin .mul (.l 33) (.l 34), none⟩,
         ⟨(.p 4), .mv (.l 35), none⟩,
         ⟨(.p 5), .mv (.c (.int .i64 (0))), none⟩])
       (.ret))))))
theorem ft39 : FT 39 = some ⟨36, [0, 1, 2, 5, 6, 7, 8, 9, 10], [.var (.p 4), .var (.p 5)], b39⟩ := by kernel_rfl

def b40_0 : ICode :=
 .seq (.seq (.region [⟨(.l 11), .mv (.p 4), none⟩,
     ⟨(.l 12), .mv (.p 0), none⟩,
     ⟨(.l 13), .len .sl (.l 12), none⟩,
     ⟨(.l 14), .bin .lss (.l 11) (.l 13), none⟩])
   (.cond (.l 14)
    (.skip)
    (.exit 0)))
  (.seq (.block 1
    (.seq (.region [⟨(.l 17), .mv (.p 0), none⟩,
       ⟨(.l 18), .mv (.p 4), none⟩,
       ⟨(.l 19), .iaddr none 1 (.l 17) (.l 18), none⟩,
       ⟨(.l 20), .load 1 false (.l 19), none⟩,
       ⟨(.l 21), .call (.c (.fn (.func 87) [] [])) [(.l 20), (.c (.int .i64 (0))), (.c (.int .i64 (999999999)))], none⟩])
     (.cond (.l 21)
      (.seq (.region [⟨(.p 3), .mv (.c (.int .i64 (3))), none⟩])
       (.ret))
      (.skip))))
   (.region [⟨(.l 15), .mv (.p 4), none⟩,
     ⟨(.l 16), .bin .add (.l 15) (.c (.int .i64 (1))), none⟩,
     ⟨(.p 4), .mv (.l 16), none⟩]))
/-- stadion/stadionref05.CheckSamples -/
def b40 : ICode :=
 .seq (.region [⟨(.p 3), .mv (.c (.int .i64 (0))), none⟩])
  (.seq (.seq (.region [⟨(.l 8), .mv (.p 0), none⟩,
      ⟨(.l 9), .len .sl (.l 8), none⟩,
      ⟨(.l 10), .bin .gtr (.l 9) (.c (.int .i64 (1000))), none⟩])
    (.cond (.l 10)
     (.seq (.region [⟨(.p 3), .mv (.c (.int .i64 (5))), none⟩])
      (.ret))
     (.skip)))
   (.seq (.seq (.region [⟨(.p 4), .mv (.c (.int .i64 (0))), none⟩])
     (.block 0
      (.loop b40_0)))
    (.seq (.seq (.region [⟨(.l 22), .mv (.p 1), none⟩,
        ⟨(.l 23), .call (.c (.fn (.func 87) [] [])) [(.l 22), (.c (.int .i64 (1))), (.c (.int .i64 (10000)))], none⟩,
        ⟨(.l 24), .mv (.l 23), none⟩,
        ⟨(.l 25), .mv (.p 2), some ((.l 24), false)⟩,
        ⟨(.l 26), .call (.c (.fn (.func 87) [] [])) [(.l 25), (.c (.int .i64 (0))), (.c (.int .i64 (999999999)))], some ((.l 24), false)⟩,
        ⟨(.l 27), .pick (.l 24) (.c (.bool true)) (.l 26), none⟩])
      (.cond (.l 27)
       (.seq (.region [⟨(.p 3), .mv (.c (.int .i64 (3))), none⟩])
        (.ret))
       (.skip)))
     (.seq (.region [⟨(.p 3), .mv (.c (.int .i64 (0))), none⟩])
      (.ret)))))
theorem ft40 : FT 40 = some ⟨28, [0, 1, 2, 6, 7], [.var (.p 3)], b40⟩ := by kernel_rfl

def b41_0 : ICode :=
 .seq (.seq (.region [⟨(.l 8), .mv (.p 4), none⟩,
     ⟨(.l 9), .mv (.p 0), none⟩,
     ⟨(.l 10), .len .sl (.l 9), none⟩,
     ⟨(.l 11), .bin .lss (.l 8) (.l 10), none⟩])
   (.cond (.l 11)
    (.skip)
    (.exit 0)))
  (.seq (.block 1
    (.seq (.region [⟨(.l 14), .mv (.p 0), none⟩,
       ⟨(.l 15), .mv (.p 4), none⟩,
       ⟨(.l 16), .iaddr none 1 (.l 14) (.l 15), none⟩,
       ⟨(.l 17), .load 1 false (.l 16), none⟩,
       ⟨(.l 18), .mv (.p 2), none⟩,
       ⟨(.l 19), .bin .gtr (.l 17) (.l 18), none⟩])
     (.cond (.l 19)
      (.seq (.region [⟨(.l 20), .mv (.p 4), none⟩,
         ⟨(.l 21), .mv (.p 1), none⟩,
         ⟨(.l 22), .bin .mul (.l 20) (.l 21), none⟩,
         ⟨(.p 3), .mv (.l 22), none⟩])
       (.ret))
      (.skip))))
   (.region [⟨(.l 12), .mv (.p 4), none⟩,
     ⟨(.l 13), .bin .add (.l 12) (.c (.int .i64 (1))), none⟩,
     ⟨(.p 4), .mv (.l 13), none⟩]))
/-- stadion/stadionref05.Reaction -/
def b41 : ICode :=
 .seq (.region [⟨(.p 3), .mv (.c (.int .i64 (0))), none⟩])
  (.seq (.seq (.region [⟨(.p 4), .mv (.c (.int .i64 (0))), none⟩])
    (.block 0
     (.loop b41_0)))
   (.seq (.region [⟨(.p 3), .mv (.c (.int .i64 (-1))), none⟩])
    (.ret)))
theorem ft41 : FT 41 = some ⟨23, [0, 1, 2, 6, 7], [.var (.p 3)], b41⟩ := by kernel_rfl

/-- stadion/stadionlaw05.integer -/
def b42 : ICode :=
 .seq (.region [⟨(.p 4), .mv (.c (.bool false)), none⟩])
  (.seq (.seq (.region [⟨(.l 9), .mv (.p 2), none⟩,
      ⟨(.l 10), .bin .neq (.l 9) (.c (.int .i64 (0))), none⟩])
    (.cond (.l 10)
     (.seq (.region [⟨(.l 11), .mv (.p 0), none⟩,
        ⟨(.l 12), .bin .eql (.l 11) (.c (.int .i64 (0))), none⟩,
        ⟨(.l 13), .mv (.l 12), none⟩,
        ⟨(.l 14), .mv (.p 1), some ((.l 13), true)⟩,
        ⟨(.l 15), .mv (.p 2), some ((.l 13), true)⟩,
        ⟨(.l 16), .bin .eql (.l 14) (.l 15), some ((.l 13), true)⟩,
        ⟨(.l 17), .pick (.l 13) (.l 16) (.c (.bool false)), none⟩,
        ⟨(.p 4), .mv (.l 17), none⟩])
      (.ret))
     (.skip)))
   (.seq (.region [⟨(.l 18), .mv (.p 1), none⟩,
      ⟨(.l 19), .bin .eql (.l 18) (.c (.int .i64 (0))), none⟩,
      ⟨(.l 20), .mv (.l 19), none⟩,
      ⟨(.l 21), .mv (.p 0), some ((.l 20), true)⟩,
      ⟨(.l 22), .mv (.p 3), some ((.l 20), true)⟩,
      ⟨(.l 23), .bin .eql (.l 21) (.l 22), some ((.l 20), true)⟩,
      ⟨(.l 24), .pick (.l 20) (.l 23) (.c (.bool false)), none⟩,
      ⟨(.p 4), .mv (.l 24), none⟩])
    (.ret)))
theorem ft42 : FT 42 = some ⟨25, [0, 1, 2, 3, 8], [.var (.p 4)], b42⟩ := by kernel_rfl

def b43_0 : ICode :=
 .seq (.region [⟨(.l 25), .bin .lss (.p 10) (.p 9), none⟩])
  (.seq (.cond (.l 25)
    (.skip)
    (.exit 0))
   (.seq (.block 1
     (.seq (.region [⟨(.l 26), .mv (.p 10), none⟩,
        ⟨(.l 27), .iaddr none 1 (.p 8) (.p 10), none⟩,
        ⟨(.l 28), .load 1 false (.l 27), none⟩,
        ⟨(.p 6), .mv (.l 26), none⟩,
        ⟨(.p 7), .mv (.l 28), none⟩])
      (.seq (.region [⟨(.l 29), .mv (.p 7), none⟩,
         ⟨(.l 30), .bin .geq (.l 29) (.c (.int .i64 (0))), none⟩,
         ⟨(.l 31), .mv (.l 30), none⟩,
         ⟨(.l 32), .mv (.p 7), some ((.l 31), true)⟩,
         ⟨(.l 33), .bin .lss (.l 32) (.c (.int .i64 (1000))), some ((.l 31), true)⟩,
         ⟨(.l 34), .pick (.l 31) (.l 33) (.c (.bool false)), none⟩])
       (.cond (.l 34)
        (.region [⟨(.l 35), .mv (.p 5), none⟩,
          ⟨(.l 36), .mv (.p 6), none⟩,
          ⟨(.l 37), .bin .add (.l 36) (.c (.int .i64 (1))), none⟩,
          ⟨(.l 38), .bslice 3 1 1 [.int .i64 (0)] [(0, 1, (.l 37))], none⟩,
          ⟨(.l 39), .append 3 1 8 (.l 35) (.l 38), none⟩,
          ⟨(.p 5), .mv (.l 39), none⟩])
        (.skip)))))
    (.region [⟨(.l 40), .bin .add (.p 10) (.c (.int .i64 (1))), none⟩,
      ⟨(.p 10), .mv (.l 40), none⟩])))
/-- stadion/finish.FalseStarts -/
def b43 : ICode :=
 .seq (.region [⟨(.p 1), .mv (.c (.nilsl)), none⟩,
    ⟨(.p 2), .mv (.c (.int .i64 (0))), none⟩])
  (.seq (.region [⟨(.l 9), .mv (.p 0), none⟩,
     ⟨(.l 10), .call (.c (.fn (.func 119) [] [])) [(.l 9), (.c (.fn (.func 124) [] []))], none⟩,
     ⟨(.p 3), .mv (.l 10), none⟩])
   (.seq (.seq (.region [⟨(.l 11), .mv (.p 0), none⟩,
       ⟨(.l 12), .len .sl (.l 11), none⟩,
       ⟨(.l 13), .bin .gtr (.l 12) (.c (.int .i64 (10))), none⟩,
       ⟨(.l 14), .call (.c (.fn (.func 91) [] [])) [(.l 13), (.c (.int .i64 (5)))], none⟩,
       ⟨(.l 15), .mv (.p 3), none⟩,
       ⟨(.l 16), .call (.c (.fn (.func 91) [] [])) [(.l 15), (.c (.int .i64 (3)))], none⟩,
       ⟨(.l 17), .bslice 28 2 1 [.int .i64 (0)] [(0, 1, (.l 14)), (1, 1, (.l 16))], none⟩,
       ⟨(.l 18), .call (.c (.fn (.func 90) [] [])) [(.l 17)], none⟩,
       ⟨(.p 4), .mv (.l 18), none⟩])
     (.seq (.region [⟨(.l 19), .mv (.p 4), none⟩,
        ⟨(.l 20), .bin .neq (.l 19) (.c (.int .i64 (0))), none⟩])
      (.cond (.l 20)
       (.seq (.region [⟨(.l 21), .mv (.p 4), none⟩,
          ⟨(.p 1), .mv (.c (.nilsl)), none⟩,
          ⟨(.p 2), .mv (.l 21), none⟩])
        (.ret))
       (.skip))))
    (.seq (.region [⟨(.p 5), .mv (.c (.nilsl)), none⟩])
     (.seq (.seq (.region [⟨(.p 8), .mv (.p 0), none⟩,
         ⟨(.p 9), .len .sl (.p 8), none⟩,
         ⟨(.p 10), .mv (.c (.int .i64 (0))), none⟩])
       (.block 0
        (.loop b43_0)))
      (.seq (.region [⟨(.l 41), .mv (.p 5), none⟩,
         ⟨(.p 1), .mv (.l 41), none⟩,
         ⟨(.p 2), .mv (.c (.int .i64 (0))), none⟩])
       (.ret))))))
theorem ft43 : FT 43 = some ⟨42, [0, 2, 3, 4, 5, 6, 7, 8, 22, 23, 24], [.var (.p 1), .var (.p 2)], b43⟩ := by kernel_rfl

/-- stadion/stadionlaw05.list -/
def b44 : ICode :=
 .seq (.region [⟨(.p 4), .mv (.c (.bool false)), none⟩])
  (.seq (.seq (.region [⟨(.l 9), .mv (.p 2), none⟩,
      ⟨(.l 10), .bin .neq (.l 9) (.c (.int .i64 (0))), none⟩])
    (.cond (.l 10)
     (.seq (.region [⟨(.l 11), .mv (.p 0), none⟩,
        ⟨(.l 12), .len .sl (.l 11), none⟩,
        ⟨(.l 13), .bin .eql (.l 12) (.c (.int .i64 (0))), none⟩,
        ⟨(.l 14), .mv (.l 13), none⟩,
        ⟨(.l 15), .mv (.p 1), some ((.l 14), true)⟩,
        ⟨(.l 16), .mv (.p 2), some ((.l 14), true)⟩,
        ⟨(.l 17), .bin .eql (.l 15) (.l 16), some ((.l 14), true)⟩,
        ⟨(.l 18), .pick (.l 14) (.l 17) (.c (.bool false)), none⟩,
        ⟨(.p 4), .mv (.l 18), none⟩])
      (.ret))
     (.skip)))
   (.seq (.region [⟨(.l 19), .mv (.p 1), none⟩,
      ⟨(.l 20), .bin .eql (.l 19) (.c (.int .i64 (0))), none⟩,
      ⟨(.l 21), .mv (.l 20), none⟩,
      ⟨(.l 22), .mv (.p 0), some ((.l 21), true)⟩,
      ⟨(.l 23), .mv (.p 3), some ((.l 21), true)⟩,
      ⟨(.l 24), .call (.c (.fn (.func 81) [] [])) [(.l 22), (.l 23)], some ((.l 21), true)⟩,
      ⟨(.l 25), .pick (.l 21) (.l 24) (.c (.bool false)), none⟩,
      ⟨(.p 4), .mv (.l 25), none⟩])
    (.ret)))
theorem ft44 : FT 44 = some ⟨26, [0, 1, 2, 3, 8], [.var (.p 4)], b44⟩ := by kernel_rfl

def b45_0 : ICode :=
 .seq (.seq (.region [⟨(.l 7), .mv (.p 2), none⟩,
     ⟨(.l 8), .mv (.p 0), none⟩,
     ⟨(.l 9), .len .sl (.l 8), none⟩,
     ⟨(.l 10), .bin .lss (.l 7) (.l 9), none⟩])
   (.cond (.l 10)
    (.skip)
    (.exit 0)))
  (.seq (.block 1
    (.seq (.region [⟨(.l 13), .mv (.p 0), none⟩,
       ⟨(.l 14), .mv (.p 2), none⟩,
       ⟨(.l 15), .iaddr none 1 (.l 13) (.l 14), none⟩,
       ⟨(.l 16), .load 1 false (.l 15), none⟩,
       ⟨(.l 17), .call (.c (.fn (.func 87) [] [])) [(.l 16), (.c (.int .i64 (-1))), (.c (.int .i64 (863999999)))], none⟩])
     (.cond (.l 17)
      (.seq (.region [⟨(.p 1), .mv (.c (.int .i64 (3))), none⟩])
       (.ret))
      (.skip))))
   (.region [⟨(.l 11), .mv (.p 2), none⟩,
     ⟨(.l 12), .bin .add (.l 11) (.c (.int .i64 (1))), none⟩,
     ⟨(.p 2), .mv (.l 12), none⟩]))
/-- stadion/stadionref05.CheckReactions -/
def b45 : ICode :=
 .seq (.region [⟨(.p 1), .mv (.c (.int .i64 (0))), none⟩])
  (.seq (.seq (.region [⟨(.l 4), .mv (.p 0), none⟩,
      ⟨(.l 5), .len .sl (.l 4), none⟩,
      ⟨(.l 6), .bin .gtr (.l 5) (.c (.int .i64 (10))), none⟩])
    (.cond (.l 6)
     (.seq (.region [⟨(.p 1), .mv (.c (.int .i64 (5))), none⟩])
      (.ret))
     (.skip)))
   (.seq (.seq (.region [⟨(.p 2), .mv (.c (.int .i64 (0))), none⟩])
     (.block 0
      (.loop b45_0)))
    (.seq (.region [⟨(.p 1), .mv (.c (.int .i64 (0))), none⟩])
     (.ret))))
theorem ft45 : FT 45 = some ⟨18, [0, 2, 3], [.var (.p 1)], b45⟩ := by kernel_rfl

def b46_0 : ICode :=
 .seq (.seq (.region [⟨(.l 5), .mv (.p 3), none⟩,
     ⟨(.l 6), .mv (.p 0), none⟩,
     ⟨(.l 7), .len .sl (.l 6), none⟩,
     ⟨(.l 8), .bin .lss (.l 5) (.l 7), none⟩])
   (.cond (.l 8)
    (.skip)
    (.exit 0)))
  (.seq (.block 1
    (.seq (.region [⟨(.l 11), .mv (.p 0), none⟩,
       ⟨(.l 12), .mv (.p 3), none⟩,
       ⟨(.l 13), .iaddr none 1 (.l 11) (.l 12), none⟩,
       ⟨(.l 14), .load 1 false (.l 13), none⟩,
       ⟨(.l 15), .bin .geq (.l 14) (.c (.int .i64 (0))), none⟩,
       ⟨(.l 16), .mv (.l 15), none⟩,
       ⟨(.l 17), .mv (.p 0), some ((.l 16), true)⟩,
       ⟨(.l 18), .mv (.p 3), some ((.l 16), true)⟩,
       ⟨(.l 19), .iaddr none 1 (.l 17) (.l 18), some ((.l 16), true)⟩,
       ⟨(.l 20), .load 1 false (.l 19), some ((.l 16), true)⟩,
       ⟨(.l 21), .bin .lss (.l 20) (.c (.int .i64 (1000))), some ((.l 16), true)⟩,
       ⟨(.l 22), .pick (.l 16) (.l 21) (.c (.bool false)), none⟩])
     (.cond (.l 22)
      (.region [⟨(.l 23), .mv (.p 2), none⟩,
        ⟨(.l 24), .mv (.p 3), none⟩,
        ⟨(.l 25), .bin .add (.l 24) (.c (.int .i64 (1))), none⟩,
        ⟨(.l 26), .bslice 3 1 1 [.int .i64 (0)] [(0, 1, (.l 25))], none⟩,
        ⟨(.l 27), .append 3 1 8 (.l 23) (.l 26), none⟩,
        ⟨(.p 2), .mv (.l 27), none⟩])
      (.skip))))
   (.region [⟨(.l 9), .mv (.p 3), none⟩,
     ⟨(.l 10), .bin .add (.l 9) (.c (.int .i64 (1))), none⟩,
     ⟨(.p 3), .mv (.l 10), none⟩]))
/-- stadion/stadionref05.FalseStarts -/
def b46 : ICode :=
 .seq (.region [⟨(.p 1), .mv (.c (.nilsl)), none⟩])
  (.seq (.region [⟨(.p 2), .mv (.c (.nilsl)), none⟩])
   (.seq (.seq (.region [⟨(.p 3), .mv (.c (.int .i64 (0))), none⟩])
     (.block 0
      (.loop b46_0)))
    (.seq (.region [⟨(.l 28), .mv (.p 2), none⟩,
       ⟨(.p 1), .mv (.l 28), none⟩])
     (.ret))))
theorem ft46 : FT 46 = some ⟨29, [0, 2, 3, 4], [.var (.p 1)], b46⟩ := by kernel_rfl

def b81_0 : ICode :=
 .seq (.seq (.region [⟨(.l 11), .mv (.p 3), none⟩,
     ⟨(.l 12), .mv (.p 0), none⟩,
     ⟨(.l 13), .len .sl (.l 12), none⟩,
     ⟨(.l 14), .bin .lss (.l 11) (.l 13), none⟩])
   (.cond (.l 14)
    (.skip)
    (.exit 0)))
  (.seq (.block 1
    (.seq (.draw [(⟨(.l 17), .mv (.p 0), none⟩, []),
       (⟨(.l 18), .mv (.p 3), none⟩, [0]),
       (⟨(.l 19), .iaddr none 1 (.l 17) (.l 18), none⟩, []),
       (⟨(.l 20), .load 1 false (.l 19), none⟩, []),
       (⟨(.l 21), .mv (.p 1), none⟩, [0, 1, 2, 3]),
       (⟨(.l 22), .mv (.p 3), none⟩, [0, 1, 2, 3, 4]),
       (⟨(.l 23), .iaddr none 1 (.l 21) (.l 22), none⟩, [0, 1, 2, 3]),
       (⟨(.l 24), .load 1 false (.l 23), none⟩, [0, 1, 2, 3]),
       (⟨(.l 25), .bin .neq (.l 20) (.l 24), none⟩, [])])
     (.cond (.l 25)
      (.seq (.region [⟨(.p 2), .mv (.c (.bool false)), none⟩])
       (.ret))
      (.skip))))
   (.region [⟨(.l 15), .mv (.p 3), none⟩,
     ⟨(.l 16), .bin .add (.l 15) (.c (.int .i64 (1))), none⟩,
     ⟨(.p 3), .mv (.l 16), none⟩]))
/-- stadion/stadionref01.SameInts -/
def b81 : ICode :=
 .seq (.region [⟨(.p 2), .mv (.c (.bool false)), none⟩])
  (.seq (.seq (.region [⟨(.l 6), .mv (.p 0), none⟩,
      ⟨(.l 7), .len .sl (.l 6), none⟩,
      ⟨(.l 8), .mv (.p 1), none⟩,
      ⟨(.l 9), .len .sl (.l 8), none⟩,
      ⟨(.l 10), .bin .neq (.l 7) (.l 9), none⟩])
    (.cond (.l 10)
     (.seq (.region [⟨(.p 2), .mv (.c (.bool false)), none⟩])
      (.ret))
     (.skip)))
   (.seq (.seq (.region [⟨(.p 3), .mv (.c (.int .i64 (0))), none⟩])
     (.block 0
      (.loop b81_0)))
    (.seq (.region [⟨(.p 2), .mv (.c (.bool true)), none⟩])
     (.ret))))
theorem ft81 : FT 81 = some ⟨26, [0, 1, 4, 5], [.var (.p 2)], b81⟩ := by kernel_rfl

/-- stadion/stadionref05.outside -/
def b87 : ICode :=
 .seq (.region [⟨(.p 3), .mv (.c (.bool false)), none⟩])
  (.seq (.region [⟨(.l 7), .mv (.p 0), none⟩,
     ⟨(.l 8), .mv (.p 1), none⟩,
     ⟨(.l 9), .bin .lss (.l 7) (.l 8), none⟩,
     ⟨(.l 10), .mv (.l 9), none⟩,
     ⟨(.l 11), .mv (.p 0), some ((.l 10), false)⟩,
     ⟨(.l 12), .mv (.p 2), some ((.l 10), false)⟩,
     ⟨(.l 13), .bin .gtr (.l 11) (.l 12), some ((.l 10), false)⟩,
     ⟨(.l 14), .pick (.l 10) (.c (.bool true)) (.l 13), none⟩,
     ⟨(.p 3), .mv (.l 14), none⟩])
   (.ret))
theorem ft87 : FT 87 = some ⟨15, [0, 1, 2, 6], [.var (.p 3)], b87⟩ := by kernel_rfl

def b90_0 : ICode :=
 .seq (.region [⟨(.l 8), .bin .lss (.p 5) (.p 4), none⟩])
  (.seq (.cond (.l 8)
    (.skip)
    (.exit 0))
   (.seq (.block 1
     (.seq (.region [⟨(.l 9), .iaddr none 1 (.p 3) (.p 5), none⟩,
        ⟨(.l 10), .load 1 false (.l 9), none⟩,
        ⟨(.p 2), .mv (.l 10), none⟩])
      (.seq (.region [⟨(.l 11), .mv (.p 2), none⟩,
         ⟨(.l 12), .bin .neq (.l 11) (.c (.int .i64 (0))), none⟩])
       (.cond (.l 12)
        (.seq (.region [⟨(.l 13), .mv (.p 2), none⟩,
           ⟨(.p 1), .mv (.l 13), none⟩])
         (.ret))
        (.skip)))))
    (.region [⟨(.l 14), .bin .add (.p 5) (.c (.int .i64 (1))), none⟩,
      ⟨(.p 5), .mv (.l 14), none⟩])))
/-- stadion/finish.first -/
def b90 : ICode :=
 .seq (.region [⟨(.p 1), .mv (.c (.int .i64 (0))), none⟩])
  (.seq (.seq (.region [⟨(.p 3), .mv (.p 0), none⟩,
      ⟨(.p 4), .len .sl (.p 3), none⟩,
      ⟨(.p 5), .mv (.c (.int .i64 (0))), none⟩])
    (.block 0
     (.loop b90_0)))
   (.seq (.region [⟨(.p 1), .mv (.c (.int .i64 (0))), none⟩])
    (.ret)))
theorem ft90 : FT 90 = some ⟨15, [0, 2, 4, 5, 6, 7], [.var (.p 1)], b90⟩ := by kernel_rfl

/-- stadion/finish.when -/
def b91 : ICode :=
 .seq (.region [⟨(.p 2), .mv (.c (.int .i64 (0))), none⟩])
  (.seq (.seq (.region [⟨(.l 5), .mv (.p 0), none⟩])
    (.cond (.l 5)
     (.seq (.region [⟨(.l 6), .mv (.p 1), none⟩,
        ⟨(.p 2), .mv (.l 6), none⟩])
      (.ret))
     (.skip)))
   (.seq (.region [⟨(.p 2), .mv (.c (.int .i64 (0))), none⟩])
    (.ret)))
theorem ft91 : FT 91 = some ⟨7, [0, 1, 4], [.var (.p 2)], b91⟩ := by kernel_rfl

/-- slices.ContainsFunc[[]int,int] -/
def b119 : ICode :=
 .seq (.region [⟨(.p 2), .mv (.c (.bool false)), none⟩])
  (.seq (.region [⟨(.l 5), .mv (.p 0), none⟩,
     ⟨(.l 6), .mv (.p 1), none⟩,
     ⟨(.l 7), .call (.c (.fn (.func 122) [] [])) [(.l 5), (.l 6)], none⟩,
     ⟨(.l 8), .bin .geq (.l 7) (.c (.int .i64 (0))), none⟩,
     ⟨(.p 2), .mv (.l 8), none⟩])
   (.ret))
theorem ft119 : FT 119 = some ⟨9, [0, 1, 4], [.var (.p 2)], b119⟩ := by kernel_rfl

/-- stadion/finish.Reaction$1 -/
def b120 : ICode :=
 .seq (.region [⟨(.p 1), .mv (.c (.bool false)), none⟩])
  (.seq (.region [⟨(.l 3), .mv (.p 0), none⟩,
     ⟨(.l 4), .bin .lss (.l 3) (.c (.int .i64 (0))), none⟩,
     ⟨(.l 5), .mv (.l 4), none⟩,
     ⟨(.l 6), .mv (.p 0), some ((.l 5), false)⟩,
     ⟨(.l 7), .bin .gtr (.l 6) (.c (.int .i64 (999999999))), some ((.l 5), false)⟩,
     ⟨(.l 8), .pick (.l 5) (.c (.bool true)) (.l 7), none⟩,
     ⟨(.p 1), .mv (.l 8), none⟩])
   (.ret))
theorem ft120 : FT 120 = some ⟨9, [0, 2], [.var (.p 1)], b120⟩ := by kernel_rfl

/-- stadion/finish.within -/
def b121 : ICode :=
 .seq (.region [⟨(.p 3), .mv (.c (.int .i64 (0))), none⟩])
  (.seq (.region [⟨(.l 7), .mv (.p 0), none⟩,
     ⟨(.l 8), .mv (.p 1), none⟩,
     ⟨(.l 9), .bin .lss (.l 7) (.l 8), none⟩,
     ⟨(.l 10), .mv (.l 9), none⟩,
     ⟨(.l 11), .mv (.p 0), some ((.l 10), false)⟩,
     ⟨(.l 12), .mv (.p 2), some ((.l 10), false)⟩,
     ⟨(.l 13), .bin .gtr (.l 11) (.l 12), some ((.l 10), false)⟩,
     ⟨(.l 14), .pick (.l 10) (.c (.bool true)) (.l 13), none⟩,
     ⟨(.l 15), .call (.c (.fn (.func 91) [] [])) [(.l 14), (.c (.int .i64 (3)))], none⟩,
     ⟨(.p 3), .mv (.l 15), none⟩])
   (.ret))
theorem ft121 : FT 121 = some ⟨16, [0, 1, 2, 6], [.var (.p 3)], b121⟩ := by kernel_rfl

def b122_0 : ICode :=
 .seq (.region [⟨(.l 9), .bin .lss (.p 5) (.p 4), none⟩])
  (.seq (.cond (.l 9)
    (.skip)
    (.exit 0))
   (.seq (.block 1
     (.seq (.region [⟨(.l 10), .mv (.p 5), none⟩,
        ⟨(.p 3), .mv (.l 10), none⟩])
      (.seq (.region [⟨(.l 11), .mv (.p 1), none⟩,
         ⟨(.l 12), .mv (.p 0), none⟩,
         ⟨(.l 13), .mv (.p 3), none⟩,
         ⟨(.l 14), .iaddr none 1 (.l 12) (.l 13), none⟩,
         ⟨(.l 15), .load 1 false (.l 14), none⟩,
         ⟨(.l 16), .call (.l 11) [(.l 15)], none⟩])
       (.cond (.l 16)
        (.seq (.region [⟨(.l 17), .mv (.p 3), none⟩,
           ⟨(.p 2), .mv (.l 17), none⟩])
         (.ret))
        (.skip)))))
    (.region [⟨(.l 18), .bin .add (.p 5) (.c (.int .i64 (1))), none⟩,
      ⟨(.p 5), .mv (.l 18), none⟩])))
/-- slices.IndexFunc[[]int,int] -/
def b122 : ICode :=
 .seq (.region [⟨(.p 2), .mv (.c (.int .i64 (0))), none⟩])
  (.seq (.seq (.region [⟨(.l 6), .mv (.p 0), none⟩,
      ⟨(.p 4), .len .sl (.l 6), none⟩,
      ⟨(.p 5), .mv (.c (.int .i64 (0))), none⟩])
    (.block 0
     (.loop b122_0)))
   (.seq (.region [⟨(.p 2), .mv (.c (.int .i64 (-1))), none⟩])
    (.ret)))
theorem ft122 : FT 122 = some ⟨19, [0, 1, 4, 5, 7, 8], [.var (.p 2)], b122⟩ := by kernel_rfl

/-- stadion/finish.Reaction$2 -/
def b123 : ICode :=
 .seq (.region [⟨(.p 2), .mv (.c (.bool false)), none⟩])
  (.seq (.region [⟨(.l 4), .mv (.p 0), none⟩,
     ⟨(.l 5), .load 1 false (.p 1), none⟩,
     ⟨(.l 6), .bin .gtr (.l 4) (.l 5), none⟩,
     ⟨(.p 2), .mv (.l 6), none⟩])
   (.ret))
theorem ft123 : FT 123 = some ⟨7, [0, 1, 3], [.var (.p 2)], b123⟩ := by kernel_rfl

/-- stadion/finish.FalseStarts$1 -/
def b124 : ICode :=
 .seq (.region [⟨(.p 1), .mv (.c (.bool false)), none⟩])
  (.seq (.region [⟨(.l 3), .mv (.p 0), none⟩,
     ⟨(.l 4), .bin .lss (.l 3) (.c (.int .i64 (-1))), none⟩,
     ⟨(.l 5), .mv (.l 4), none⟩,
     ⟨(.l 6), .mv (.p 0), some ((.l 5), false)⟩,
     ⟨(.l 7), .bin .gtr (.l 6) (.c (.int .i64 (863999999))), some ((.l 5), false)⟩,
     ⟨(.l 8), .pick (.l 5) (.c (.bool true)) (.l 7), none⟩,
     ⟨(.p 1), .mv (.l 8), none⟩])
   (.ret))
theorem ft124 : FT 124 = some ⟨9, [0, 2], [.var (.p 1)], b124⟩ := by kernel_rfl


end Go.Ab.Ch5


/-
  Own work: what FinishStarts calls, one function after another.
-/
namespace Go.Ab.Ch5
variable {M : Mach} {cap : Option Nat}
abbrev fnV (k : Nat) : AV := .fn (.func k) [] []

def outI (x lo hi : Int) : Bool := decide (x < lo) || decide (hi < x)
theorem w87 (hft : M.FT = FT) (x lo hi : Int) : Run M 87 [.int .i64 x, .int .i64 lo, .int .i64 hi] [] ⟨.bool (outI x lo hi), [], []⟩ := by
  refine run_of_W (by rw [hft]; exact ft87) (by simp) ?_
  unfold b87
  simp only [List.map_cons, List.map_nil, List.getElem?_cons_zero, List.getElem?_cons_succ, List.getElem?_nil, Option.getD_some, Option.getD_none]
  repeat' first | apply W.seq | apply SQn | apply W.region | apply WO.nil | apply W.block | apply W.ret | apply W.exit | apply W.skip | apply SQr | apply SQe | apply BQn | apply BQr | apply BQe | (apply BQo; exact rfl) | apply LQe | apply LQr | (apply W.condT; exact rfl) | (apply W.condF; exact rfl) | (apply W.cond; exact rfl; all_goals intro _) | (apply WO.gT; exact rfl) | (apply WO.gF; exact rfl) | (apply WO.sT; exact rfl) | (apply WO.sF; exact rfl) | (apply WO.sU; exact rfl) | (apply WO.lss; exact rfl; exact rfl; all_goals first | (intro _; exfalso; omega) | intro _) | (apply WO.gtr; exact rfl; exact rfl; all_goals first | (intro _; exfalso; omega) | intro _) | (apply WO.pkT; exact rfl; exact rfl) | (apply WO.pkF; exact rfl; exact rfl) | (apply WO.pl; exact rfl; exact rfl) | (apply WO.pp; exact rfl; exact rfl)
  all_goals exact ⟨.inr rfl, rfl, _, rfl, congrArg AV.bool (by simp_all [outI]), rfl⟩
theorem w91 (hft : M.FT = FT) (t : Bool) (e : Int) : Run M 91 [.bool t, .int .i64 e] [] ⟨.int .i64 (if t then e else 0), [], []⟩ := by
  refine run_of_W (by rw [hft]; exact ft91) (by simp) ?_
  unfold b91
  simp only [List.map_cons, List.map_nil, List.getElem?_cons_zero, List.getElem?_cons_succ, List.getElem?_nil, Option.getD_some, Option.getD_none]
  cases t
  all_goals
    repeat' first | apply W.seq | apply SQn | apply W.region | apply WO.nil | apply W.block | apply W.ret | apply W.exit | apply W.skip | apply SQr | apply SQe | apply BQn | apply BQr | apply BQe | (apply BQo; exact rfl) | apply LQe | apply LQr | (apply W.condT; exact rfl) | (apply W.condF; exact rfl) | (apply W.cond; exact rfl; all_goals intro _) | (apply WO.pl; exact rfl; exact rfl) | (apply WO.pp; exact rfl; exact rfl)
  all_goals exact ⟨.inr rfl, rfl, _, rfl, rfl, rfl⟩
theorem w20 (hft : M.FT = FT) (t : Bool) (e : Int) : Run M 20 [.bool t, .int .i64 e] [] ⟨.int .i64 (if t then e else 0), [], []⟩ := by
  refine run_of_W (by rw [hft]; exact ft20) (by simp) ?_
  unfold b20
  simp only [List.map_cons, List.map_nil, List.getElem?_cons_zero, List.getElem?_cons_succ, List.getElem?_nil, Option.getD_some, Option.getD_none]
  cases t
  all_goals
    repeat' first | apply W.seq | apply SQn | apply W.region | apply WO.nil | apply W.block | apply W.ret | apply W.exit | apply W.skip | apply SQr | apply SQe | apply BQn | apply BQr | apply BQe | (apply BQo; exact rfl) | apply LQe | apply LQr | (apply W.condT; exact rfl) | (apply W.condF; exact rfl) | (apply W.cond; exact rfl; all_goals intro _) | (apply WO.pl; exact rfl; exact rfl) | (apply WO.pp; exact rfl; exact rfl)
  all_goals exact ⟨.inr rfl, rfl, _, rfl, rfl, rfl⟩
theorem w121 (hft : M.FT = FT) (h91 : ∀ t e h, M.ext 91 [.bool t, .int .i64 e] h = some ⟨.int .i64 (if t then e else 0), h, []⟩) (x lo hi : Int) : Run M 121 [.int .i64 x, .int .i64 lo, .int .i64 hi] [] ⟨.int .i64 (if outI x lo hi then 3 else 0), [], []⟩ := by
  have q1 := h91 true 3
  have q2 := h91 false 3
  refine run_of_W (by rw [hft]; exact ft121) (by simp) ?_
  unfold b121
  simp only [List.map_cons, List.map_nil, List.getElem?_cons_zero, List.getElem?_cons_succ, List.getElem?_nil, Option.getD_some, Option.getD_none]
  repeat' first | apply W.seq | apply SQn | apply W.region | apply WO.nil | apply W.block | apply W.ret | apply W.exit | apply W.skip | apply SQr | apply SQe | apply BQn | apply BQr | apply BQe | (apply BQo; exact rfl) | apply LQe | apply LQr | (apply W.condT; exact rfl) | (apply W.condF; exact rfl) | (apply W.cond; exact rfl; all_goals intro _) | (apply WO.gT; exact rfl) | (apply WO.gF; exact rfl) | (apply WO.sT; exact rfl) | (apply WO.sF; exact rfl) | (apply WO.sU; exact rfl) | (apply WO.lss; exact rfl; exact rfl; all_goals first | (intro _; exfalso; omega) | intro _) | (apply WO.gtr; exact rfl; exact rfl; all_goals first | (intro _; exfalso; omega) | intro _) | (apply WO.pkT; exact rfl; exact rfl) | (apply WO.pkF; exact rfl; exact rfl) | (apply WO.cll; exact rfl; exact rfl; first | exact q1 _ | exact q2 _) | (apply WO.clb; exact rfl; exact rfl; exact rfl; all_goals first | (intro h; exact absurd h (by decide)) | intro _) | (apply WO.cll; exact rfl; exact rfl; exact rfl) | (apply WO.pl; exact rfl; exact rfl) | (apply WO.pp; exact rfl; exact rfl)
  all_goals exact ⟨.inr rfl, rfl, _, rfl, congrArg (AV.int .i64) (by simp_all [outI]), rfl⟩

def firstNZ : List Int → Int
  | [] => 0
  | e :: r => if e = 0 then firstNZ r else e
theorem firstNZ_drop {l : List Int} {i : Nat} (h : i < l.length) : firstNZ (l.drop i) = if l[i]! = 0 then firstNZ (l.drop (i + 1)) else l[i]! := by
  rw [List.drop_eq_getElem_cons h, getElem!_pos l i h, firstNZ]
theorem loop90 (l : List Int) (hl : l.length < 4611686018427387904) {Q : Ex → StW → Prop} : ∀ (r i : Nat) (a2 : AV) (lo : List (Nat × AV)) (wr : List Nat), i + r = l.length →
    (firstNZ (l.drop i) = 0 → ∀ a2 lo wr, Q (.exit 0) ⟨⟨[.vs (ints l) l.length cap, .int .i64 0, a2, .vs (ints l) l.length cap, .int .i64 l.length, .int .i64 l.length], lo, [], []⟩, wr⟩) →
    (∀ a2 a5 lo wr, Q .ret ⟨⟨[.vs (ints l) l.length cap, .int .i64 (firstNZ (l.drop i)), a2, .vs (ints l) l.length cap, .int .i64 l.length, a5], lo, [], []⟩, wr⟩) →
    W M (.loop b90_0) ⟨⟨[.vs (ints l) l.length cap, .int .i64 0, a2, .vs (ints l) l.length cap, .int .i64 l.length, .int .i64 i], lo, [], []⟩, wr⟩ Q
  | 0, i, a2, lo, wr, hi, h1, h2 => by
    obtain rfl : i = l.length := by omega
    refine W.loop ?_
    unfold b90_0
    repeat' first | apply W.seq | apply SQn | apply W.region | apply WO.nil | apply W.block | apply W.ret | apply W.exit | apply W.skip | apply SQr | apply SQe | apply BQn | apply BQr | apply BQe | (apply BQo; exact rfl) | apply LQe | apply LQr | (apply W.condT; exact rfl) | (apply W.condF; exact rfl) | (apply W.cond; exact rfl; all_goals intro _) | (apply WO.lss; exact rfl; exact rfl; all_goals first | (intro _; exfalso; omega) | intro _) | (apply WO.neq; exact rfl; exact rfl; all_goals first | (intro _; exfalso; omega) | intro _) | (apply WO.add; exact rfl; exact rfl; omega) | (apply WO.iav; exact rfl; exact rfl; omega) | (apply WO.ias; exact rfl; exact rfl; omega) | (apply WO.lda; exact rfl; exact fun _ => rfl; (first | omega | (simp only [List.length_set]; omega) | (simp; omega)); decide; exact rfl; case ia => infer_instance) | (apply WO.lsa; exact rfl; (first | exact rfl | assumption | exact at_new | (apply at_old; assumption) | (apply at_put; first | assumption | (simp only [put_length]; assumption))); exact fun _ => rfl; (first | omega | (simp only [List.length_set]; omega) | (simp; omega)); decide; exact rfl; case ia => infer_instance) | (apply WO.sneq; exact rfl; exact rfl; all_goals first | (intro h; exact absurd h (by decide)) | (intro h; exact absurd rfl h) | (intro h; contradiction) | intro _) | (apply WO.hlv; exact rfl; exact rfl; exact rfl) | (apply WO.hpv; exact rfl; exact rfl; exact rfl) | (apply WO.hnv; exact rfl; exact rfl; exact rfl) | (apply WO.pl; exact rfl; exact rfl) | (apply WO.pp; exact rfl; exact rfl)
    exact h1 (by simp [firstNZ]) _ _ _
  | r + 1, i, a2, lo, wr, hi, h1, h2 => by
    have e := firstNZ_drop (l := l) (i := (i : Int).toNat) (by omega)
    rw [Int.toNat_natCast] at e
    refine W.loop ?_
    unfold b90_0
    repeat' first | apply W.seq | apply SQn | apply W.region | apply WO.nil | apply W.block | apply W.ret | apply W.exit | apply W.skip | apply SQr | apply SQe | apply BQn | apply BQr | apply BQe | (apply BQo; exact rfl) | apply LQe | apply LQr | (apply W.condT; exact rfl) | (apply W.condF; exact rfl) | (apply W.cond; exact rfl; all_goals intro _) | (apply WO.lss; exact rfl; exact rfl; all_goals first | (intro _; exfalso; omega) | intro _) | (apply WO.neq; exact rfl; exact rfl; all_goals first | (intro _; exfalso; omega) | intro _) | (apply WO.add; exact rfl; exact rfl; omega) | (apply WO.iav; exact rfl; exact rfl; omega) | (apply WO.ias; exact rfl; exact rfl; omega) | (apply WO.lda; exact rfl; exact fun _ => rfl; (first | omega | (simp only [List.length_set]; omega) | (simp; omega)); decide; exact rfl; case ia => infer_instance) | (apply WO.lsa; exact rfl; (first | exact rfl | assumption | exact at_new | (apply at_old; assumption) | (apply at_put; first | assumption | (simp only [put_length]; assumption))); exact fun _ => rfl; (first | omega | (simp only [List.length_set]; omega) | (simp; omega)); decide; exact rfl; case ia => infer_instance) | (apply WO.sneq; exact rfl; exact rfl; all_goals first | (intro h; exact absurd h (by decide)) | (intro h; exact absurd rfl h) | (intro h; contradiction) | intro _) | (apply WO.hlv; exact rfl; exact rfl; exact rfl) | (apply WO.hpv; exact rfl; exact rfl; exact rfl) | (apply WO.hnv; exact rfl; exact rfl; exact rfl) | (apply WO.pl; exact rfl; exact rfl) | (apply WO.pp; exact rfl; exact rfl)
    · rename_i he
      rw [Int.toNat_natCast] at he
      rw [if_neg he] at e
      rw [e] at h2
      exact h2 _ _ _ _
    · rename_i he
      rw [Int.toNat_natCast] at he
      rw [if_pos he] at e
      rw [e] at h1 h2
      exact LQn (loop90 l hl r (i + 1) _ _ _ (by omega) h1 h2)
theorem w90 (hft : M.FT = FT) (l : List Int) (hl : l.length < 4611686018427387904) : Run M 90 [.vs (ints l) l.length cap] [] ⟨.int .i64 (firstNZ l), [], []⟩ := by
  refine run_of_W (by rw [hft]; exact ft90) (by simp) ?_
  unfold b90
  simp only [List.map_cons, List.map_nil, List.getElem?_cons_zero, List.getElem?_cons_succ, List.getElem?_nil, Option.getD_some, Option.getD_none]
  repeat' first | apply W.seq | apply SQn | apply W.region | apply WO.nil | apply W.block | apply W.ret | apply W.exit | apply W.skip | apply SQr | apply SQe | apply BQn | apply BQr | apply BQe | (apply BQo; exact rfl) | apply LQe | apply LQr | (apply W.condT; exact rfl) | (apply W.condF; exact rfl) | (apply W.cond; exact rfl; all_goals intro _) | (apply WO.pl; exact rfl; exact rfl) | (apply WO.pp; exact rfl; exact rfl)
  refine loop90 l hl l.length 0 _ _ _ (by omega) (fun h a2 lo wr => ?_) (fun a2 a5 lo wr => ?_)
  · repeat' first | apply W.seq | apply SQn | apply W.region | apply WO.nil | apply W.block | apply W.ret | apply W.exit | apply W.skip | apply SQr | apply SQe | apply BQn | apply BQr | apply BQe | (apply BQo; exact rfl) | apply LQe | apply LQr | (apply W.condT; exact rfl) | (apply W.condF; exact rfl) | (apply W.cond; exact rfl; all_goals intro _) | (apply WO.pl; exact rfl; exact rfl) | (apply WO.pp; exact rfl; exact rfl)
    exact ⟨.inr rfl, rfl, _, rfl, by rw [List.drop_zero] at h; rw [h]; rfl, rfl⟩
  · repeat' first | apply W.seq | apply SQn | apply W.region | apply WO.nil | apply W.block | apply W.ret | apply W.exit | apply W.skip | apply SQr | apply SQe | apply BQn | apply BQr | apply BQe | (apply BQo; exact rfl) | apply LQe | apply LQr | (apply W.condT; exact rfl) | (apply W.condF; exact rfl) | (apply W.cond; exact rfl; all_goals intro _) | (apply WO.pl; exact rfl; exact rfl) | (apply WO.pp; exact rfl; exact rfl)
    exact ⟨.inr rfl, rfl, _, rfl, rfl, rfl⟩

/-! slices.IndexFunc, slices.ContainsFunc. -/
def idxP (p : Int → Bool) : List Int → Nat → Int
  | [], _ => -1
  | a :: l, i => if p a then i else idxP p l (i + 1)
theorem idxP_drop {p : Int → Bool} {l : List Int} {i : Nat} (h : i < l.length) : idxP p (l.drop i) i = if p l[i]! then (i : Int) else idxP p (l.drop (i + 1)) (i + 1) := by
  rw [List.drop_eq_getElem_cons h, getElem!_pos l i h, idxP]
theorem idxP_any (p : Int → Bool) : ∀ (l : List Int) (i : Nat), decide (0 ≤ idxP p l i) = l.any p
  | [], i => by simp [idxP]
  | a :: l, i => by
    rw [idxP, List.any_cons]
    cases p a
    · simpa using idxP_any p l (i + 1)
    · simp
theorem idxP_lt (p : Int → Bool) : ∀ (l : List Int) (i : Nat), idxP p l i = -1 ∨ (0 ≤ idxP p l i ∧ idxP p l i < i + l.length)
  | [], i => .inl rfl
  | a :: l, i => by
    rw [idxP]
    split
    · right; simp only [List.length_cons]; omega
    · rcases idxP_lt p l (i + 1) with h | h
      · exact .inl h
      · right; simp only [List.length_cons]; omega

theorem loop122 (l : List Int) (p : Int → Bool) (f : AV) (H : Heap) (hl : l.length < 4611686018427387904) (hf : ∀ x, CT M f [.int .i64 x] H ⟨.bool (p x), H, []⟩) {Q : Ex → StW → Prop} : ∀ (r i : Nat) (a3 : AV) (lo : List (Nat × AV)), i + r = l.length →
    (idxP p (l.drop i) i = -1 → ∀ a3 lo, Q (.exit 0) ⟨⟨[.vs (ints l) l.length cap, f, .int .i64 0, a3, .int .i64 l.length, .int .i64 l.length], lo, H, []⟩, []⟩) →
    (∀ a3 a5 lo, Q .ret ⟨⟨[.vs (ints l) l.length cap, f, .int .i64 (idxP p (l.drop i) i), a3, .int .i64 l.length, a5], lo, H, []⟩, []⟩) →
    W M (.loop b122_0) ⟨⟨[.vs (ints l) l.length cap, f, .int .i64 0, a3, .int .i64 l.length, .int .i64 i], lo, H, []⟩, []⟩ Q
  | 0, i, a3, lo, hi, h1, h2 => by
    obtain rfl : i = l.length := by omega
    refine W.loop ?_
    unfold b122_0
    repeat' first | apply W.seq | apply SQn | apply W.region | apply WO.nil | apply W.block | apply W.ret | apply W.exit | apply W.skip | apply SQr | apply SQe | apply BQn | apply BQr | apply BQe | (apply BQo; exact rfl) | apply LQe | apply LQr | (apply W.condT; exact rfl) | (apply W.condF; exact rfl) | (apply W.cond; exact rfl; all_goals intro _) | (apply WO.lss; exact rfl; exact rfl; all_goals first | (intro _; exfalso; omega) | intro _) | (apply WO.add; exact rfl; exact rfl; omega) | (apply WO.iav; exact rfl; exact rfl; omega) | (apply WO.ias; exact rfl; exact rfl; omega) | (apply WO.lda; exact rfl; exact fun _ => rfl; (first | omega | (simp only [List.length_set]; omega) | (simp; omega)); decide; exact rfl; case ia => infer_instance) | (apply WO.lsa; exact rfl; (first | exact rfl | assumption | exact at_new | (apply at_old; assumption) | (apply at_put; first | assumption | (simp only [put_length]; assumption))); exact fun _ => rfl; (first | omega | (simp only [List.length_set]; omega) | (simp; omega)); decide; exact rfl; case ia => infer_instance) | (apply WO.clb; exact rfl; exact rfl; exact rfl; all_goals first | (intro h; exact absurd h (by decide)) | intro _) | (apply WO.cll; exact rfl; exact rfl; exact rfl) | (apply WO.hlv; exact rfl; exact rfl; exact rfl) | (apply WO.hpv; exact rfl; exact rfl; exact rfl) | (apply WO.hnv; exact rfl; exact rfl; exact rfl) | (apply WO.pl; exact rfl; exact rfl) | (apply WO.pp; exact rfl; exact rfl)
    exact h1 (by simp [idxP]) _ _
  | r + 1, i, a3, lo, hi, h1, h2 => by
    have e := idxP_drop (p := p) (l := l) (i := (i : Int).toNat) (by omega)
    have hc := hf l[((i : Int)).toNat]!
    rw [Int.toNat_natCast] at e
    refine W.loop ?_
    cases hp : p l[((i : Int)).toNat]!
    · rw [hp] at hc
      rw [Int.toNat_natCast] at hp
      rw [hp] at e
      rw [e] at h1 h2
      unfold b122_0
      repeat' first | apply W.seq | apply SQn | apply W.region | apply WO.nil | apply W.block | apply W.ret | apply W.exit | apply W.skip | apply SQr | apply SQe | apply BQn | apply BQr | apply BQe | (apply BQo; exact rfl) | apply LQe | apply LQr | (apply W.condT; exact rfl) | (apply W.condF; exact rfl) | (apply W.cond; exact rfl; all_goals intro _) | (apply WO.lss; exact rfl; exact rfl; all_goals first | (intro _; exfalso; omega) | intro _) | (apply WO.add; exact rfl; exact rfl; omega) | (apply WO.ct; exact rfl; exact rfl; first | exact hc) | (apply WO.ctn; exact rfl; exact rfl; first | exact hc) | (apply WD.ct; exact rfl; exact rfl; exact rfl; first | exact hc) | (apply WO.iav; exact rfl; exact rfl; omega) | (apply WO.ias; exact rfl; exact rfl; omega) | (apply WO.lda; exact rfl; exact fun _ => rfl; (first | omega | (simp only [List.length_set]; omega) | (simp; omega)); decide; exact rfl; case ia => infer_instance) | (apply WO.lsa; exact rfl; (first | exact rfl | assumption | exact at_new | (apply at_old; assumption) | (apply at_put; first | assumption | (simp only [put_length]; assumption))); exact fun _ => rfl; (first | omega | (simp only [List.length_set]; omega) | (simp; omega)); decide; exact rfl; case ia => infer_instance) | (apply WO.clb; exact rfl; exact rfl; exact rfl; all_goals first | (intro h; exact absurd h (by decide)) | intro _) | (apply WO.cll; exact rfl; exact rfl; exact rfl) | (apply WO.hlv; exact rfl; exact rfl; exact rfl) | (apply WO.hpv; exact rfl; exact rfl; exact rfl) | (apply WO.hnv; exact rfl; exact rfl; exact rfl) | (apply WO.pl; exact rfl; exact rfl) | (apply WO.pp; exact rfl; exact rfl)
      exact LQn (loop122 l p f H hl hf r (i + 1) _ _ (by omega) h1 h2)
    · rw [hp] at hc
      rw [Int.toNat_natCast] at hp
      rw [hp] at e
      rw [e] at h2
      unfold b122_0
      repeat' first | apply W.seq | apply SQn | apply W.region | apply WO.nil | apply W.block | apply W.ret | apply W.exit | apply W.skip | apply SQr | apply SQe | apply BQn | apply BQr | apply BQe | (apply BQo; exact rfl) | apply LQe | apply LQr | (apply W.condT; exact rfl) | (apply W.condF; exact rfl) | (apply W.cond; exact rfl; all_goals intro _) | (apply WO.lss; exact rfl; exact rfl; all_goals first | (intro _; exfalso; omega) | intro _) | (apply WO.add; exact rfl; exact rfl; omega) | (apply WO.ct; exact rfl; exact rfl; first | exact hc) | (apply WO.ctn; exact rfl; exact rfl; first | exact hc) | (apply WD.ct; exact rfl; exact rfl; exact rfl; first | exact hc) | (apply WO.iav; exact rfl; exact rfl; omega) | (apply WO.ias; exact rfl; exact rfl; omega) | (apply WO.lda; exact rfl; exact fun _ => rfl; (first | omega | (simp only [List.length_set]; omega) | (simp; omega)); decide; exact rfl; case ia => infer_instance) | (apply WO.lsa; exact rfl; (first | exact rfl | assumption | exact at_new | (apply at_old; assumption) | (apply at_put; first | assumption | (simp only [put_length]; assumption))); exact fun _ => rfl; (first | omega | (simp only [List.length_set]; omega) | (simp; omega)); decide; exact rfl; case ia => infer_instance) | (apply WO.clb; exact rfl; exact rfl; exact rfl; all_goals first | (intro h; exact absurd h (by decide)) | intro _) | (apply WO.cll; exact rfl; exact rfl; exact rfl) | (apply WO.hlv; exact rfl; exact rfl; exact rfl) | (apply WO.hpv; exact rfl; exact rfl; exact rfl) | (apply WO.hnv; exact rfl; exact rfl; exact rfl) | (apply WO.pl; exact rfl; exact rfl) | (apply WO.pp; exact rfl; exact rfl)
      exact h2 _ _ _
theorem r122 (hft : M.FT = FT) (n122 : ∀ ars h, M.ext 122 ars h = none) (l : List Int) (p : Int → Bool) (f : AV) (H : Heap) (hl : l.length < 4611686018427387904) (hf : ∀ x, CT M f [.int .i64 x] H ⟨.bool (p x), H, []⟩) :
    CT M (fnV 122) [.vs (ints l) l.length cap, f] H ⟨.int .i64 (idxP p l 0), H, []⟩ := by
  refine CT.run (n122 _ _) (run_same (by rw [hft]; exact ft122) (by simp) ?_)
  simp only [List.nil_append, List.append_nil]
  unfold b122
  simp only [List.map_cons, List.map_nil, List.getElem?_cons_zero, List.getElem?_cons_succ, List.getElem?_nil, Option.getD_some, Option.getD_none]
  repeat' first | apply W.seq | apply SQn | apply W.region | apply WO.nil | apply W.block | apply W.ret | apply W.exit | apply W.skip | apply SQr | apply SQe | apply BQn | apply BQr | apply BQe | (apply BQo; exact rfl) | apply LQe | apply LQr | (apply W.condT; exact rfl) | (apply W.condF; exact rfl) | (apply W.cond; exact rfl; all_goals intro _) | (apply WO.pl; exact rfl; exact rfl) | (apply WO.pp; exact rfl; exact rfl)
  refine loop122 l p f H hl hf l.length 0 _ _ (by omega) (fun h a3 lo => ?_) (fun a3 a5 lo => ?_)
  · repeat' first | apply W.seq | apply SQn | apply W.region | apply WO.nil | apply W.block | apply W.ret | apply W.exit | apply W.skip | apply SQr | apply SQe | apply BQn | apply BQr | apply BQe | (apply BQo; exact rfl) | apply LQe | apply LQr | (apply W.condT; exact rfl) | (apply W.condF; exact rfl) | (apply W.cond; exact rfl; all_goals intro _) | (apply WO.pl; exact rfl; exact rfl) | (apply WO.pp; exact rfl; exact rfl)
    exact ⟨.inr rfl, rfl, rfl, rfl, _, rfl, by rw [List.drop_zero] at h; rw [h]; rfl⟩
  · repeat' first | apply W.seq | apply SQn | apply W.region | apply WO.nil | apply W.block | apply W.ret | apply W.exit | apply W.skip | apply SQr | apply SQe | apply BQn | apply BQr | apply BQe | (apply BQo; exact rfl) | apply LQe | apply LQr | (apply W.condT; exact rfl) | (apply W.condF; exact rfl) | (apply W.cond; exact rfl; all_goals intro _) | (apply WO.pl; exact rfl; exact rfl) | (apply WO.pp; exact rfl; exact rfl)
    exact ⟨.inr rfl, rfl, rfl, rfl, _, rfl, rfl⟩
theorem r119 (hft : M.FT = FT) (n119 : ∀ ars h, M.ext 119 ars h = none) (n122 : ∀ ars h, M.ext 122 ars h = none) (l : List Int) (p : Int → Bool) (f : AV) (H : Heap) (hl : l.length < 4611686018427387904) (hf : ∀ x, CT M f [.int .i64 x] H ⟨.bool (p x), H, []⟩) :
    CT M (fnV 119) [.vs (ints l) l.length cap, f] H ⟨.bool (l.any p), H, []⟩ := by
  have hc := r122 (cap := cap) hft n122 l p f H hl hf
  have hb := idxP_lt p l 0
  rw [← idxP_any p l 0]
  refine CT.run (n119 _ _) (run_same (by rw [hft]; exact ft119) (by simp) ?_)
  simp only [List.nil_append, List.append_nil]
  unfold b119
  simp only [List.map_cons, List.map_nil, List.getElem?_cons_zero, List.getElem?_cons_succ, List.getElem?_nil, Option.getD_some, Option.getD_none]
  repeat' first | apply W.seq | apply SQn | apply W.region | apply WO.nil | apply W.block | apply W.ret | apply W.exit | apply W.skip | apply SQr | apply SQe | apply BQn | apply BQr | apply BQe | (apply BQo; exact rfl) | apply LQe | apply LQr | (apply W.condT; exact rfl) | (apply W.condF; exact rfl) | (apply W.cond; exact rfl; all_goals intro _) | (apply WO.geq; exact rfl; exact rfl; all_goals first | (intro _; exfalso; omega) | intro _) | (apply WO.ct; exact rfl; exact rfl; first | exact hc) | (apply WO.ctn; exact rfl; exact rfl; first | exact hc) | (apply WD.ct; exact rfl; exact rfl; exact rfl; first | exact hc) | (apply WO.clb; exact rfl; exact rfl; exact rfl; all_goals first | (intro h; exact absurd h (by decide)) | intro _) | (apply WO.cll; exact rfl; exact rfl; exact rfl) | (apply WO.pl; exact rfl; exact rfl) | (apply WO.pp; exact rfl; exact rfl)
  all_goals (rename_i h; exact ⟨.inr rfl, rfl, rfl, rfl, _, rfl, congrArg AV.bool (by simp [h])⟩)
theorem r120 (hft : M.FT = FT) (n : ∀ ars h, M.ext 120 ars h = none) (H : Heap) (x : Int) : CT M (fnV 120) [.int .i64 x] H ⟨.bool (outI x 0 999999999), H, []⟩ := by
  refine CT.run (n _ _) (run_same (by rw [hft]; exact ft120) (by simp) ?_)
  simp only [List.nil_append, List.append_nil]
  unfold b120
  simp only [List.map_cons, List.map_nil, List.getElem?_cons_zero, List.getElem?_cons_succ, List.getElem?_nil, Option.getD_some, Option.getD_none]
  repeat' first | apply W.seq | apply SQn | apply W.region | apply WO.nil | apply W.block | apply W.ret | apply W.exit | apply W.skip | apply SQr | apply SQe | apply BQn | apply BQr | apply BQe | (apply BQo; exact rfl) | apply LQe | apply LQr | (apply W.condT; exact rfl) | (apply W.condF; exact rfl) | (apply W.cond; exact rfl; all_goals intro _) | (apply WO.gT; exact rfl) | (apply WO.gF; exact rfl) | (apply WO.sT; exact rfl) | (apply WO.sF; exact rfl) | (apply WO.sU; exact rfl) | (apply WO.lss; exact rfl; exact rfl; all_goals first | (intro _; exfalso; omega) | intro _) | (apply WO.gtr; exact rfl; exact rfl; all_goals first | (intro _; exfalso; omega) | intro _) | (apply WO.pkT; exact rfl; exact rfl) | (apply WO.pkF; exact rfl; exact rfl) | (apply WO.pl; exact rfl; exact rfl) | (apply WO.pp; exact rfl; exact rfl)
  all_goals exact ⟨.inr rfl, rfl, rfl, rfl, _, rfl, congrArg AV.bool (by simp_all [outI])⟩
theorem r124 (hft : M.FT = FT) (n : ∀ ars h, M.ext 124 ars h = none) (H : Heap) (x : Int) : CT M (fnV 124) [.int .i64 x] H ⟨.bool (outI x (-1) 863999999), H, []⟩ := by
  refine CT.run (n _ _) (run_same (by rw [hft]; exact ft124) (by simp) ?_)
  simp only [List.nil_append, List.append_nil]
  unfold b124
  simp only [List.map_cons, List.map_nil, List.getElem?_cons_zero, List.getElem?_cons_succ, List.getElem?_nil, Option.getD_some, Option.getD_none]
  repeat' first | apply W.seq | apply SQn | apply W.region | apply WO.nil | apply W.block | apply W.ret | apply W.exit | apply W.skip | apply SQr | apply SQe | apply BQn | apply BQr | apply BQe | (apply BQo; exact rfl) | apply LQe | apply LQr | (apply W.condT; exact rfl) | (apply W.condF; exact rfl) | (apply W.cond; exact rfl; all_goals intro _) | (apply WO.gT; exact rfl) | (apply WO.gF; exact rfl) | (apply WO.sT; exact rfl) | (apply WO.sF; exact rfl) | (apply WO.sU; exact rfl) | (apply WO.lss; exact rfl; exact rfl; all_goals first | (intro _; exfalso; omega) | intro _) | (apply WO.gtr; exact rfl; exact rfl; all_goals first | (intro _; exfalso; omega) | intro _) | (apply WO.pkT; exact rfl; exact rfl) | (apply WO.pkF; exact rfl; exact rfl) | (apply WO.pl; exact rfl; exact rfl) | (apply WO.pp; exact rfl; exact rfl)
  all_goals exact ⟨.inr rfl, rfl, rfl, rfl, _, rfl, congrArg AV.bool (by simp_all [outI])⟩
theorem r123 (hft : M.FT = FT) (n : ∀ ars h, M.ext 123 ars h = none) (H : Heap) (bx : Nat) (t x : Int) (hb : H.at bx = some (.cells [.int .i64 t] 3)) : CT M (.fn (.func 123) [] [.ptr bx 0]) [.int .i64 x] H ⟨.bool (decide (t < x)), H, []⟩ := by
  refine CT.run (n _ _) (run_same (by rw [hft]; exact ft123) (by simp) ?_)
  simp only [List.nil_append, List.cons_append]
  unfold b123
  simp only [List.map_cons, List.map_nil, List.getElem?_cons_zero, List.getElem?_cons_succ, List.getElem?_nil, Option.getD_some, Option.getD_none]
  repeat' first | (apply WO.ldb; exact rfl; exact hb; exact rfl) | apply W.seq | apply SQn | apply W.region | apply WO.nil | apply W.block | apply W.ret | apply W.exit | apply W.skip | apply SQr | apply SQe | apply BQn | apply BQr | apply BQe | (apply BQo; exact rfl) | apply LQe | apply LQr | (apply W.condT; exact rfl) | (apply W.condF; exact rfl) | (apply W.cond; exact rfl; all_goals intro _) | (apply WO.gtr; exact rfl; exact rfl; all_goals first | (intro _; exfalso; omega) | intro _) | (apply WO.hlv; exact rfl; exact rfl; exact rfl) | (apply WO.hpv; exact rfl; exact rfl; exact rfl) | (apply WO.hnv; exact rfl; exact rfl; exact rfl) | (apply WO.pl; exact rfl; exact rfl) | (apply WO.pp; exact rfl; exact rfl)
  all_goals exact ⟨.inr rfl, rfl, rfl, rfl, _, rfl, congrArg AV.bool (by simp_all)⟩
end Go.Ab.Ch5


/-
  Own work: finish.Reaction and finish.FalseStarts, and the reference's.
-/
namespace Go.Ab.Ch5
variable {M : Mach} {cap : Option Nat}

/-- The error of samples. -/
def samplesE (l : List Int) (s t : Int) : Int := if 1000 < l.length then 5 else if l.any (fun x => outI x 0 999999999) then 3 else if outI s 1 10000 then 3 else if outI t 0 999999999 then 3 else 0
/-- The time of the first sample above, or -1. -/
def firstAt (l : List Int) (t : Int) : Int := idxP (fun x => decide (t < x)) l 0

structure C39 (M : Mach) : Prop where
  ft : M.FT = FT
  n119 : ∀ ars h, M.ext 119 ars h = none
  n120 : ∀ ars h, M.ext 120 ars h = none
  n122 : ∀ ars h, M.ext 122 ars h = none
  n123 : ∀ ars h, M.ext 123 ars h = none
  n124 : ∀ ars h, M.ext 124 ars h = none
  c91 : ∀ t e h, M.ext 91 [.bool t, .int .i64 e] h = some ⟨.int .i64 (if t then e else 0), h, []⟩
  c121 : ∀ x lo hi h, M.ext 121 [.int .i64 x, .int .i64 lo, .int .i64 hi] h = some ⟨.int .i64 (if outI x lo hi then 3 else 0), h, []⟩
  c90 : ∀ v l h, intsAt h v = some l → l.length < 4611686018427387904 → M.ext 90 [v] h = some ⟨.int .i64 (firstNZ l), h, []⟩

theorem ints_at {h : Heap} {b n : Nat} {cap : Option Nat} {l : List Int} {e : TypeId} (hb : h.at b = some (.cells (ints l) e)) (hl : l.length = n) : intsAt h (.sl b 0 n 1 cap) = some l := by
  subst hl
  have e0 : (ints l).length = l.length := (arr_length (f := fun x : Int => [AV.int .i64 x]) (esz := 1) (fun _ => rfl) l).trans (Nat.mul_one _)
  have e1 : cut (ints l) 0 (l.length * 1) = some (ints l) := by
    rw [Nat.mul_one, ← e0]; simp [cut]
  simp only [intsAt, cellsAt, hb, e1, Option.map_some, decInts_ints]
  simp

theorem samples_first (l : List Int) (s t : Int) : firstNZ [if decide (1000 < l.length) then 5 else 0, if l.any (fun x => outI x 0 999999999) then 3 else 0, if outI s 1 10000 then 3 else 0, if outI t 0 999999999 then 3 else 0] = samplesE l s t := by
  unfold samplesE
  by_cases h : 1000 < l.length
  · simp [firstNZ, h]
  · cases l.any (fun x => outI x 0 999999999) <;> cases outI s 1 10000 <;> cases outI t 0 999999999 <;> simp [firstNZ, h]

set_option maxHeartbeats 2000000 in
theorem w39 (C : C39 M) (l : List Int) (s t : Int) (hl : l.length < 1000000) : Run M 39 [.vs (ints l) l.length cap, .int .i64 s, .int .i64 t] [] ⟨.tup [.int .i64 (if samplesE l s t ≠ 0 then 0 else if firstAt l t < 0 then 0 else firstAt l t * s), .int .i64 (if samplesE l s t ≠ 0 then samplesE l s t else if firstAt l t < 0 then 7 else 0)], [], []⟩ := by
  refine run_of_W (by rw [C.ft]; exact ft39) (by simp) ?_
  have H1 : Heap.at [some (Blk.cells [.int .i64 t] 3)] 0 = some (.cells [.int .i64 t] 3) := rfl
  have q119 := r119 (cap := cap) C.ft C.n119 C.n122 l (fun x => outI x 0 999999999) (fnV 120) [some (.cells [.int .i64 t] 3)] (by omega) (fun x => r120 C.ft C.n120 _ x)
  have q122 := fun (H : Heap) (hb : H.at 0 = some (.cells [.int .i64 t] 3)) => r122 (cap := cap) C.ft C.n122 l (fun x => decide (t < x)) (.fn (.func 123) [] [.ptr 0 0]) H (by omega) (fun x => r123 C.ft C.n123 H 0 t x hb)
  have hfe := samples_first l s t
  have hbound := idxP_lt (fun x => decide (t < x)) l 0
  have hss : samplesE l s t = 0 → 1 ≤ s ∧ s ≤ 10000 := fun h => by
    unfold samplesE at h
    split at h
    · omega
    · split at h
      · omega
      · split at h
        · omega
        · rename_i hs
          simp [outI] at hs
          omega
  have q90 : ∀ (a b c d : Int), M.ext 90 [.sl 1 0 4 1 (some 4)] ([some (Blk.cells [.int .i64 t] 3)] ++ [some (.cells [.int .i64 a, .int .i64 b, .int .i64 c, .int .i64 d] 28)]) = some ⟨.int .i64 (firstNZ [a, b, c, d]), [some (Blk.cells [.int .i64 t] 3)] ++ [some (.cells [.int .i64 a, .int .i64 b, .int .i64 c, .int .i64 d] 28)], []⟩ := fun a b c d => by
    have hb : Heap.at ([some (Blk.cells [.int .i64 t] 3)] ++ [some (.cells (ints [a, b, c, d]) 28)]) 1 = some (.cells (ints [a, b, c, d]) 28) := rfl
    exact C.c90 _ [a, b, c, d] _ (ints_at hb rfl) (by simp)
  unfold firstAt
  generalize idxP (fun x => decide (t < x)) l 0 = F at *
  generalize l.any (fun x => outI x 0 999999999) = far at *
  generalize samplesE l s t = E at *
  have hmul : E = 0 → ¬ F < 0 → -9223372036854775808 ≤ F * s ∧ F * s < 9223372036854775808 := fun h0 h1 => by
    obtain ⟨g1, g2⟩ := hss h0
    have k1 : F * s ≤ 1000000 * s := Int.mul_le_mul_of_nonneg_right (by omega) (by omega)
    have k2 : 0 ≤ F * s := Int.mul_nonneg (by omega) (by omega)
    omega
  unfold b39
  simp only [List.map_cons, List.map_nil, List.getElem?_cons_zero, List.getElem?_cons_succ, List.getElem?_nil, Option.getD_some, Option.getD_none]
  by_cases hm : 1000 < l.length
  · rw [decide_eq_true hm] at hfe
    have q := q90 (if true = true then 5 else 0) (if far = true then 3 else 0) (if outI s 1 10000 = true then 3 else 0) (if outI t 0 999999999 = true then 3 else 0)
    rw [hfe] at q
    by_cases hE : E = 0
    · exfalso
      rw [hE] at hfe
      simp [firstNZ] at hfe
    · clear hfe hmul hss
      repeat' first | apply W.seq | apply SQn | apply W.region | apply WO.nil | apply W.block | apply W.ret | apply W.exit | apply W.skip | apply SQr | apply SQe | apply BQn | apply BQr | apply BQe | (apply BQo; exact rfl) | apply LQe | apply LQr | (apply W.drawro; exact rfl) | apply W.draw | apply WD.nil | (apply WD.gT; exact rfl) | (apply WD.gF; exact rfl) | (apply WD.sT; exact rfl) | (apply WD.sF; exact rfl) | (apply WD.sU; exact rfl) | (apply WD.pure1; exact rfl) | (apply WD.load1; exact rfl; exact rfl; exact rfl) | (apply WD.new1; exact rfl) | (apply WD.clb; exact rfl; exact rfl; exact rfl; exact rfl; all_goals first | (intro h; exact absurd h (by decide)) | intro _) | (apply WD.cl0; exact rfl; exact rfl; exact rfl; exact rfl) | (apply WD.cl1; exact rfl; exact rfl; exact rfl; exact rfl) | (apply W.condT; exact rfl) | (apply W.condF; exact rfl) | (apply W.cond; exact rfl; all_goals intro _) | (apply WO.lss; exact rfl; exact rfl; all_goals first | (intro _; exfalso; omega) | intro _) | (apply WO.gtr; exact rfl; exact rfl; all_goals first | (intro _; exfalso; omega) | intro _) | (apply WO.neq; exact rfl; exact rfl; all_goals first | (intro _; exfalso; omega) | intro _) | (apply WO.mul; exact rfl; exact rfl; omega) | (apply WO.ct; exact rfl; exact rfl; first | exact q119) | (apply WO.ctn; exact rfl; exact rfl; first | exact q119) | (apply WD.ct; exact rfl; exact rfl; exact rfl; first | exact q119) | (apply WO.cll; exact rfl; exact rfl; first | exact C.c91 _ _ _ | exact C.c121 _ _ _ _ | exact q) | (apply WD.cl0; exact rfl; exact rfl; exact rfl; first | exact C.c91 _ _ _ | exact C.c121 _ _ _ _ | exact q) | (apply WO.sneq; exact rfl; exact rfl; all_goals first | (intro h; exact absurd h (by decide)) | (intro h; exact absurd rfl h) | (intro h; contradiction) | intro _) | (apply WO.clb; exact rfl; exact rfl; exact rfl; all_goals first | (intro h; exact absurd h (by decide)) | intro _) | (apply WO.cll; exact rfl; exact rfl; exact rfl) | (apply WO.hlv; exact rfl; exact rfl; exact rfl) | (apply WO.hpv; exact rfl; exact rfl; exact rfl) | (apply WO.hnv; exact rfl; exact rfl; exact rfl) | (apply WO.pl; exact rfl; exact rfl) | (apply WO.pp; exact rfl; exact rfl)
      exact ⟨.inr rfl, rfl, _, rfl, by rw [if_pos hE, if_pos hE]; rfl, rfl⟩
  · rw [decide_eq_false hm] at hfe
    have q := q90 (if false = true then 5 else 0) (if far = true then 3 else 0) (if outI s 1 10000 = true then 3 else 0) (if outI t 0 999999999 = true then 3 else 0)
    rw [hfe] at q
    by_cases hE : E = 0
    · rw [hE] at q
      have hmul := hmul hE
      by_cases hF : F < 0
      · repeat' first | apply W.seq | apply SQn | apply W.region | apply WO.nil | apply W.block | apply W.ret | apply W.exit | apply W.skip | apply SQr | apply SQe | apply BQn | apply BQr | apply BQe | (apply BQo; exact rfl) | apply LQe | apply LQr | (apply W.drawro; exact rfl) | apply W.draw | apply WD.nil | (apply WD.gT; exact rfl) | (apply WD.gF; exact rfl) | (apply WD.sT; exact rfl) | (apply WD.sF; exact rfl) | (apply WD.sU; exact rfl) | (apply WD.pure1; exact rfl) | (apply WD.load1; exact rfl; exact rfl; exact rfl) | (apply WD.new1; exact rfl) | (apply WD.clb; exact rfl; exact rfl; exact rfl; exact rfl; all_goals first | (intro h; exact absurd h (by decide)) | intro _) | (apply WD.cl0; exact rfl; exact rfl; exact rfl; exact rfl) | (apply WD.cl1; exact rfl; exact rfl; exact rfl; exact rfl) | (apply W.condT; exact rfl) | (apply W.condF; exact rfl) | (apply W.cond; exact rfl; all_goals intro _) | (apply WO.lss; exact rfl; exact rfl; all_goals first | (intro _; exfalso; omega) | intro _) | (apply WO.gtr; exact rfl; exact rfl; all_goals first | (intro _; exfalso; omega) | intro _) | (apply WO.neq; exact rfl; exact rfl; all_goals first | (intro _; exfalso; omega) | intro _) | (apply WO.mul; exact rfl; exact rfl; omega) | (apply WO.ct; exact rfl; exact rfl; first | exact q119 | exact q122 _ rfl) | (apply WO.ctn; exact rfl; exact rfl; first | exact q119 | exact q122 _ rfl) | (apply WD.ct; exact rfl; exact rfl; exact rfl; first | exact q119 | exact q122 _ rfl) | (apply WO.cll; exact rfl; exact rfl; first | exact C.c91 _ _ _ | exact C.c121 _ _ _ _ | exact q) | (apply WD.cl0; exact rfl; exact rfl; exact rfl; first | exact C.c91 _ _ _ | exact C.c121 _ _ _ _ | exact q) | (apply WO.sneq; exact rfl; exact rfl; all_goals first | (intro h; exact absurd h (by decide)) | (intro h; exact absurd rfl h) | (intro h; contradiction) | intro _) | (apply WO.clb; exact rfl; exact rfl; exact rfl; all_goals first | (intro h; exact absurd h (by decide)) | intro _) | (apply WO.cll; exact rfl; exact rfl; exact rfl) | (apply WO.hlv; exact rfl; exact rfl; exact rfl) | (apply WO.hpv; exact rfl; exact rfl; exact rfl) | (apply WO.hnv; exact rfl; exact rfl; exact rfl) | (apply WO.pl; exact rfl; exact rfl) | (apply WO.pp; exact rfl; exact rfl)
        exact ⟨.inr rfl, rfl, _, rfl, by rw [if_neg (fun h => h hE), if_pos hF, if_neg (fun h => h hE), if_pos hF]; rfl, rfl⟩
      · repeat' first | (apply WO.mul; exact rfl; exact rfl; exact hmul hF) | apply W.seq | apply SQn | apply W.region | apply WO.nil | apply W.block | apply W.ret | apply W.exit | apply W.skip | apply SQr | apply SQe | apply BQn | apply BQr | apply BQe | (apply BQo; exact rfl) | apply LQe | apply LQr | (apply W.drawro; exact rfl) | apply W.draw | apply WD.nil | (apply WD.gT; exact rfl) | (apply WD.gF; exact rfl) | (apply WD.sT; exact rfl) | (apply WD.sF; exact rfl) | (apply WD.sU; exact rfl) | (apply WD.pure1; exact rfl) | (apply WD.load1; exact rfl; exact rfl; exact rfl) | (apply WD.new1; exact rfl) | (apply WD.clb; exact rfl; exact rfl; exact rfl; exact rfl; all_goals first | (intro h; exact absurd h (by decide)) | intro _) | (apply WD.cl0; exact rfl; exact rfl; exact rfl; exact rfl) | (apply WD.cl1; exact rfl; exact rfl; exact rfl; exact rfl) | (apply W.condT; exact rfl) | (apply W.condF; exact rfl) | (apply W.cond; exact rfl; all_goals intro _) | (apply WO.lss; exact rfl; exact rfl; all_goals first | (intro _; exfalso; omega) | intro _) | (apply WO.gtr; exact rfl; exact rfl; all_goals first | (intro _; exfalso; omega) | intro _) | (apply WO.neq; exact rfl; exact rfl; all_goals first | (intro _; exfalso; omega) | intro _) | (apply WO.mul; exact rfl; exact rfl; omega) | (apply WO.ct; exact rfl; exact rfl; first | exact q119 | exact q122 _ rfl) | (apply WO.ctn; exact rfl; exact rfl; first | exact q119 | exact q122 _ rfl) | (apply WD.ct; exact rfl; exact rfl; exact rfl; first | exact q119 | exact q122 _ rfl) | (apply WO.cll; exact rfl; exact rfl; first | exact C.c91 _ _ _ | exact C.c121 _ _ _ _ | exact q) | (apply WD.cl0; exact rfl; exact rfl; exact rfl; first | exact C.c91 _ _ _ | exact C.c121 _ _ _ _ | exact q) | (apply WO.sneq; exact rfl; exact rfl; all_goals first | (intro h; exact absurd h (by decide)) | (intro h; exact absurd rfl h) | (intro h; contradiction) | intro _) | (apply WO.clb; exact rfl; exact rfl; exact rfl; all_goals first | (intro h; exact absurd h (by decide)) | intro _) | (apply WO.cll; exact rfl; exact rfl; exact rfl) | (apply WO.hlv; exact rfl; exact rfl; exact rfl) | (apply WO.hpv; exact rfl; exact rfl; exact rfl) | (apply WO.hnv; exact rfl; exact rfl; exact rfl) | (apply WO.pl; exact rfl; exact rfl) | (apply WO.pp; exact rfl; exact rfl)
        exact ⟨.inr rfl, rfl, _, rfl, by rw [if_neg (fun h => h hE), if_neg hF, if_neg (fun h => h hE), if_neg hF]; rfl, rfl⟩
    · clear hfe hmul hss
      repeat' first | apply W.seq | apply SQn | apply W.region | apply WO.nil | apply W.block | apply W.ret | apply W.exit | apply W.skip | apply SQr | apply SQe | apply BQn | apply BQr | apply BQe | (apply BQo; exact rfl) | apply LQe | apply LQr | (apply W.drawro; exact rfl) | apply W.draw | apply WD.nil | (apply WD.gT; exact rfl) | (apply WD.gF; exact rfl) | (apply WD.sT; exact rfl) | (apply WD.sF; exact rfl) | (apply WD.sU; exact rfl) | (apply WD.pure1; exact rfl) | (apply WD.load1; exact rfl; exact rfl; exact rfl) | (apply WD.new1; exact rfl) | (apply WD.clb; exact rfl; exact rfl; exact rfl; exact rfl; all_goals first | (intro h; exact absurd h (by decide)) | intro _) | (apply WD.cl0; exact rfl; exact rfl; exact rfl; exact rfl) | (apply WD.cl1; exact rfl; exact rfl; exact rfl; exact rfl) | (apply W.condT; exact rfl) | (apply W.condF; exact rfl) | (apply W.cond; exact rfl; all_goals intro _) | (apply WO.lss; exact rfl; exact rfl; all_goals first | (intro _; exfalso; omega) | intro _) | (apply WO.gtr; exact rfl; exact rfl; all_goals first | (intro _; exfalso; omega) | intro _) | (apply WO.neq; exact rfl; exact rfl; all_goals first | (intro _; exfalso; omega) | intro _) | (apply WO.mul; exact rfl; exact rfl; omega) | (apply WO.ct; exact rfl; exact rfl; first | exact q119) | (apply WO.ctn; exact rfl; exact rfl; first | exact q119) | (apply WD.ct; exact rfl; exact rfl; exact rfl; first | exact q119) | (apply WO.cll; exact rfl; exact rfl; first | exact C.c91 _ _ _ | exact C.c121 _ _ _ _ | exact q) | (apply WD.cl0; exact rfl; exact rfl; exact rfl; first | exact C.c91 _ _ _ | exact C.c121 _ _ _ _ | exact q) | (apply WO.sneq; exact rfl; exact rfl; all_goals first | (intro h; exact absurd h (by decide)) | (intro h; exact absurd rfl h) | (intro h; contradiction) | intro _) | (apply WO.clb; exact rfl; exact rfl; exact rfl; all_goals first | (intro h; exact absurd h (by decide)) | intro _) | (apply WO.cll; exact rfl; exact rfl; exact rfl) | (apply WO.hlv; exact rfl; exact rfl; exact rfl) | (apply WO.hpv; exact rfl; exact rfl; exact rfl) | (apply WO.hnv; exact rfl; exact rfl; exact rfl) | (apply WO.pl; exact rfl; exact rfl) | (apply WO.pp; exact rfl; exact rfl)
      exact ⟨.inr rfl, rfl, _, rfl, by rw [if_pos hE, if_pos hE]; rfl, rfl⟩

/-! The reference. -/
theorem any_drop {p : Int → Bool} {l : List Int} {i : Nat} (h : i < l.length) : (l.drop i).any p = (p l[i]! || (l.drop (i + 1)).any p) := by
  rw [List.drop_eq_getElem_cons h, getElem!_pos l i h, List.any_cons]
theorem loop40 (c87 : ∀ x lo hi h, M.ext 87 [.int .i64 x, .int .i64 lo, .int .i64 hi] h = some ⟨.bool (outI x lo hi), h, []⟩) (l : List Int) (hl : l.length < 1000000) (a1 a2 : AV) {Q : Ex → StW → Prop} : ∀ (r i : Nat) (lo : List (Nat × AV)) (wr : List Nat), i + r = l.length →
    ((l.drop i).any (fun x => outI x 0 999999999) = false → ∀ a4 lo wr, Q (.exit 0) ⟨⟨[.vs (ints l) l.length cap, a1, a2, .int .i64 0, a4], lo, [], []⟩, wr⟩) →
    ((l.drop i).any (fun x => outI x 0 999999999) = true → ∀ a4 lo wr, Q .ret ⟨⟨[.vs (ints l) l.length cap, a1, a2, .int .i64 3, a4], lo, [], []⟩, wr⟩) →
    W M (.loop b40_0) ⟨⟨[.vs (ints l) l.length cap, a1, a2, .int .i64 0, .int .i64 i], lo, [], []⟩, wr⟩ Q
  | 0, i, lo, wr, hi, h1, h2 => by
    obtain rfl : i = l.length := by omega
    refine W.loop ?_
    unfold b40_0
    repeat' first | apply W.seq | apply SQn | apply W.region | apply WO.nil | apply W.block | apply W.ret | apply W.exit | apply W.skip | apply SQr | apply SQe | apply BQn | apply BQr | apply BQe | (apply BQo; exact rfl) | apply LQe | apply LQr | (apply W.condT; exact rfl) | (apply W.condF; exact rfl) | (apply W.cond; exact rfl; all_goals intro _) | (apply WO.lss; exact rfl; exact rfl; all_goals first | (intro _; exfalso; omega) | intro _) | (apply WO.add; exact rfl; exact rfl; omega) | (apply WO.iav; exact rfl; exact rfl; omega) | (apply WO.ias; exact rfl; exact rfl; omega) | (apply WO.lda; exact rfl; exact fun _ => rfl; (first | omega | (simp only [List.length_set]; omega) | (simp; omega)); decide; exact rfl; case ia => infer_instance) | (apply WO.lsa; exact rfl; (first | exact rfl | assumption | exact at_new | (apply at_old; assumption) | (apply at_put; first | assumption | (simp only [put_length]; assumption))); exact fun _ => rfl; (first | omega | (simp only [List.length_set]; omega) | (simp; omega)); decide; exact rfl; case ia => infer_instance) | (apply WO.clb; exact rfl; exact rfl; exact rfl; all_goals first | (intro h; exact absurd h (by decide)) | intro _) | (apply WO.cll; exact rfl; exact rfl; exact rfl) | (apply WO.hlv; exact rfl; exact rfl; exact rfl) | (apply WO.hpv; exact rfl; exact rfl; exact rfl) | (apply WO.hnv; exact rfl; exact rfl; exact rfl) | (apply WO.pl; exact rfl; exact rfl) | (apply WO.pp; exact rfl; exact rfl)
    exact h1 (by simp) _ _ _
  | r + 1, i, lo, wr, hi, h1, h2 => by
    have e := any_drop (p := fun x => outI x 0 999999999) (l := l) (i := (i : Int).toNat) (by omega)
    have q := c87 l[((i : Int)).toNat]! 0 999999999
    rw [Int.toNat_natCast] at e
    refine W.loop ?_
    cases hp : outI l[((i : Int)).toNat]! 0 999999999
    · rw [hp] at q
      rw [Int.toNat_natCast] at hp
      rw [hp, Bool.false_or] at e
      rw [e] at h1 h2
      unfold b40_0
      repeat' first | apply W.seq | apply SQn | apply W.region | apply WO.nil | apply W.block | apply W.ret | apply W.exit | apply W.skip | apply SQr | apply SQe | apply BQn | apply BQr | apply BQe | (apply BQo; exact rfl) | apply LQe | apply LQr | (apply W.condT; exact rfl) | (apply W.condF; exact rfl) | (apply W.cond; exact rfl; all_goals intro _) | (apply WO.lss; exact rfl; exact rfl; all_goals first | (intro _; exfalso; omega) | intro _) | (apply WO.add; exact rfl; exact rfl; omega) | (apply WO.cll; exact rfl; exact rfl; first | exact q _) | (apply WO.iav; exact rfl; exact rfl; omega) | (apply WO.ias; exact rfl; exact rfl; omega) | (apply WO.lda; exact rfl; exact fun _ => rfl; (first | omega | (simp only [List.length_set]; omega) | (simp; omega)); decide; exact rfl; case ia => infer_instance) | (apply WO.lsa; exact rfl; (first | exact rfl | assumption | exact at_new | (apply at_old; assumption) | (apply at_put; first | assumption | (simp only [put_length]; assumption))); exact fun _ => rfl; (first | omega | (simp only [List.length_set]; omega) | (simp; omega)); decide; exact rfl; case ia => infer_instance) | (apply WO.clb; exact rfl; exact rfl; exact rfl; all_goals first | (intro h; exact absurd h (by decide)) | intro _) | (apply WO.cll; exact rfl; exact rfl; exact rfl) | (apply WO.hlv; exact rfl; exact rfl; exact rfl) | (apply WO.hpv; exact rfl; exact rfl; exact rfl) | (apply WO.hnv; exact rfl; exact rfl; exact rfl) | (apply WO.pl; exact rfl; exact rfl) | (apply WO.pp; exact rfl; exact rfl)
      exact LQn (loop40 c87 l hl a1 a2 r (i + 1) _ _ (by omega) h1 h2)
    · rw [hp] at q
      rw [Int.toNat_natCast] at hp
      rw [hp, Bool.true_or] at e
      unfold b40_0
      repeat' first | apply W.seq | apply SQn | apply W.region | apply WO.nil | apply W.block | apply W.ret | apply W.exit | apply W.skip | apply SQr | apply SQe | apply BQn | apply BQr | apply BQe | (apply BQo; exact rfl) | apply LQe | apply LQr | (apply W.condT; exact rfl) | (apply W.condF; exact rfl) | (apply W.cond; exact rfl; all_goals intro _) | (apply WO.lss; exact rfl; exact rfl; all_goals first | (intro _; exfalso; omega) | intro _) | (apply WO.add; exact rfl; exact rfl; omega) | (apply WO.cll; exact rfl; exact rfl; first | exact q _) | (apply WO.iav; exact rfl; exact rfl; omega) | (apply WO.ias; exact rfl; exact rfl; omega) | (apply WO.lda; exact rfl; exact fun _ => rfl; (first | omega | (simp only [List.length_set]; omega) | (simp; omega)); decide; exact rfl; case ia => infer_instance) | (apply WO.lsa; exact rfl; (first | exact rfl | assumption | exact at_new | (apply at_old; assumption) | (apply at_put; first | assumption | (simp only [put_length]; assumption))); exact fun _ => rfl; (first | omega | (simp only [List.length_set]; omega) | (simp; omega)); decide; exact rfl; case ia => infer_instance) | (apply WO.clb; exact rfl; exact rfl; exact rfl; all_goals first | (intro h; exact absurd h (by decide)) | intro _) | (apply WO.cll; exact rfl; exact rfl; exact rfl) | (apply WO.hlv; exact rfl; exact rfl; exact rfl) | (apply WO.hpv; exact rfl; exact rfl; exact rfl) | (apply WO.hnv; exact rfl; exact rfl; exact rfl) | (apply WO.pl; exact rfl; exact rfl) | (apply WO.pp; exact rfl; exact rfl)
      exact h2 e _ _ _
theorem w40 (hft : M.FT = FT) (c87 : ∀ x lo hi h, M.ext 87 [.int .i64 x, .int .i64 lo, .int .i64 hi] h = some ⟨.bool (outI x lo hi), h, []⟩) (l : List Int) (s t : Int) (hl : l.length < 1000000) : Run M 40 [.vs (ints l) l.length cap, .int .i64 s, .int .i64 t] [] ⟨.int .i64 (samplesE l s t), [], []⟩ := by
  refine run_of_W (by rw [hft]; exact ft40) (by simp) ?_
  unfold b40
  simp only [List.map_cons, List.map_nil, List.getElem?_cons_zero, List.getElem?_cons_succ, List.getElem?_nil, Option.getD_some, Option.getD_none]
  by_cases hm : 1000 < l.length
  · repeat' first | apply W.seq | apply SQn | apply W.region | apply WO.nil | apply W.block | apply W.ret | apply W.exit | apply W.skip | apply SQr | apply SQe | apply BQn | apply BQr | apply BQe | (apply BQo; exact rfl) | apply LQe | apply LQr | (apply W.condT; exact rfl) | (apply W.condF; exact rfl) | (apply W.cond; exact rfl; all_goals intro _) | (apply WO.gT; exact rfl) | (apply WO.gF; exact rfl) | (apply WO.sT; exact rfl) | (apply WO.sF; exact rfl) | (apply WO.sU; exact rfl) | (apply WO.gtr; exact rfl; exact rfl; all_goals first | (intro _; exfalso; omega) | intro _) | (apply WO.pkT; exact rfl; exact rfl) | (apply WO.pkF; exact rfl; exact rfl) | (apply WO.clb; exact rfl; exact rfl; exact rfl; all_goals first | (intro h; exact absurd h (by decide)) | intro _) | (apply WO.cll; exact rfl; exact rfl; exact rfl) | (apply WO.pl; exact rfl; exact rfl) | (apply WO.pp; exact rfl; exact rfl)
    exact ⟨.inr rfl, rfl, _, rfl, by rw [samplesE, if_pos hm]; rfl, rfl⟩
  · repeat' first | apply W.seq | apply SQn | apply W.region | apply WO.nil | apply W.block | apply W.ret | apply W.exit | apply W.skip | apply SQr | apply SQe | apply BQn | apply BQr | apply BQe | (apply BQo; exact rfl) | apply LQe | apply LQr | (apply W.condT; exact rfl) | (apply W.condF; exact rfl) | (apply W.cond; exact rfl; all_goals intro _) | (apply WO.gT; exact rfl) | (apply WO.gF; exact rfl) | (apply WO.sT; exact rfl) | (apply WO.sF; exact rfl) | (apply WO.sU; exact rfl) | (apply WO.gtr; exact rfl; exact rfl; all_goals first | (intro _; exfalso; omega) | intro _) | (apply WO.pkT; exact rfl; exact rfl) | (apply WO.pkF; exact rfl; exact rfl) | (apply WO.clb; exact rfl; exact rfl; exact rfl; all_goals first | (intro h; exact absurd h (by decide)) | intro _) | (apply WO.cll; exact rfl; exact rfl; exact rfl) | (apply WO.pl; exact rfl; exact rfl) | (apply WO.pp; exact rfl; exact rfl)
    refine loop40 c87 l hl _ _ l.length 0 _ _ (by omega) (fun h a4 lo wr => ?_) (fun h a4 lo wr => ?_)
    · rw [List.drop_zero] at h
      have q1 := c87 s 1 10000
      have q2 := c87 t 0 999999999
      have e : samplesE l s t = if outI s 1 10000 then 3 else if outI t 0 999999999 then 3 else 0 := by
        rw [samplesE, if_neg hm, h, if_neg (show ¬ (false = true) by decide)]
      cases hs : outI s 1 10000 <;> cases ht : outI t 0 999999999
      all_goals
        rw [hs] at q1
        rw [ht] at q2
        rw [hs, ht] at e
        repeat' first | apply W.seq | apply SQn | apply W.region | apply WO.nil | apply W.block | apply W.ret | apply W.exit | apply W.skip | apply SQr | apply SQe | apply BQn | apply BQr | apply BQe | (apply BQo; exact rfl) | apply LQe | apply LQr | (apply W.condT; exact rfl) | (apply W.condF; exact rfl) | (apply W.cond; exact rfl; all_goals intro _) | (apply WO.gT; exact rfl) | (apply WO.gF; exact rfl) | (apply WO.sT; exact rfl) | (apply WO.sF; exact rfl) | (apply WO.sU; exact rfl) | (apply WO.gtr; exact rfl; exact rfl; all_goals first | (intro _; exfalso; omega) | intro _) | (apply WO.pkT; exact rfl; exact rfl) | (apply WO.pkF; exact rfl; exact rfl) | (apply WO.cll; exact rfl; exact rfl; first | exact q1 _ | exact q2 _) | (apply WO.clb; exact rfl; exact rfl; exact rfl; all_goals first | (intro h; exact absurd h (by decide)) | intro _) | (apply WO.cll; exact rfl; exact rfl; exact rfl) | (apply WO.pl; exact rfl; exact rfl) | (apply WO.pp; exact rfl; exact rfl)
      all_goals exact ⟨.inr rfl, rfl, _, rfl, by rw [e]; simp [tupA], rfl⟩
    · rw [List.drop_zero] at h
      repeat' first | apply W.seq | apply SQn | apply W.region | apply WO.nil | apply W.block | apply W.ret | apply W.exit | apply W.skip | apply SQr | apply SQe | apply BQn | apply BQr | apply BQe | (apply BQo; exact rfl) | apply LQe | apply LQr | (apply W.condT; exact rfl) | (apply W.condF; exact rfl) | (apply W.cond; exact rfl; all_goals intro _) | (apply WO.gT; exact rfl) | (apply WO.gF; exact rfl) | (apply WO.sT; exact rfl) | (apply WO.sF; exact rfl) | (apply WO.sU; exact rfl) | (apply WO.gtr; exact rfl; exact rfl; all_goals first | (intro _; exfalso; omega) | intro _) | (apply WO.pkT; exact rfl; exact rfl) | (apply WO.pkF; exact rfl; exact rfl) | (apply WO.clb; exact rfl; exact rfl; exact rfl; all_goals first | (intro h; exact absurd h (by decide)) | intro _) | (apply WO.cll; exact rfl; exact rfl; exact rfl) | (apply WO.pl; exact rfl; exact rfl) | (apply WO.pp; exact rfl; exact rfl)
      exact ⟨.inr rfl, rfl, _, rfl, by rw [samplesE, if_neg hm, h, if_pos rfl]; rfl, rfl⟩
theorem loop41 (l : List Int) (s t : Int) (hs : 1 ≤ s ∧ s ≤ 10000) (hl : l.length < 1000000) {Q : Ex → StW → Prop} : ∀ (r i : Nat) (lo : List (Nat × AV)) (wr : List Nat), i + r = l.length →
    (idxP (fun x => decide (t < x)) (l.drop i) i = -1 → ∀ a4 lo wr, Q (.exit 0) ⟨⟨[.vs (ints l) l.length cap, .int .i64 s, .int .i64 t, .int .i64 0, a4], lo, [], []⟩, wr⟩) →
    (0 ≤ idxP (fun x => decide (t < x)) (l.drop i) i → ∀ a4 lo wr, Q .ret ⟨⟨[.vs (ints l) l.length cap, .int .i64 s, .int .i64 t, .int .i64 (idxP (fun x => decide (t < x)) (l.drop i) i * s), a4], lo, [], []⟩, wr⟩) →
    W M (.loop b41_0) ⟨⟨[.vs (ints l) l.length cap, .int .i64 s, .int .i64 t, .int .i64 0, .int .i64 i], lo, [], []⟩, wr⟩ Q
  | 0, i, lo, wr, hi, h1, h2 => by
    obtain rfl : i = l.length := by omega
    refine W.loop ?_
    unfold b41_0
    repeat' first | apply W.seq | apply SQn | apply W.region | apply WO.nil | apply W.block | apply W.ret | apply W.exit | apply W.skip | apply SQr | apply SQe | apply BQn | apply BQr | apply BQe | (apply BQo; exact rfl) | apply LQe | apply LQr | (apply W.condT; exact rfl) | (apply W.condF; exact rfl) | (apply W.cond; exact rfl; all_goals intro _) | (apply WO.lss; exact rfl; exact rfl; all_goals first | (intro _; exfalso; omega) | intro _) | (apply WO.gtr; exact rfl; exact rfl; all_goals first | (intro _; exfalso; omega) | intro _) | (apply WO.add; exact rfl; exact rfl; omega) | (apply WO.mul; exact rfl; exact rfl; omega) | (apply WO.iav; exact rfl; exact rfl; omega) | (apply WO.ias; exact rfl; exact rfl; omega) | (apply WO.lda; exact rfl; exact fun _ => rfl; (first | omega | (simp only [List.length_set]; omega) | (simp; omega)); decide; exact rfl; case ia => infer_instance) | (apply WO.lsa; exact rfl; (first | exact rfl | assumption | exact at_new | (apply at_old; assumption) | (apply at_put; first | assumption | (simp only [put_length]; assumption))); exact fun _ => rfl; (first | omega | (simp only [List.length_set]; omega) | (simp; omega)); decide; exact rfl; case ia => infer_instance) | (apply WO.hlv; exact rfl; exact rfl; exact rfl) | (apply WO.hpv; exact rfl; exact rfl; exact rfl) | (apply WO.hnv; exact rfl; exact rfl; exact rfl) | (apply WO.pl; exact rfl; exact rfl) | (apply WO.pp; exact rfl; exact rfl)
    exact h1 (by simp [idxP]) _ _ _
  | r + 1, i, lo, wr, hi, h1, h2 => by
    have e := idxP_drop (p := fun x => decide (t < x)) (l := l) (i := (i : Int).toNat) (by omega)
    rw [Int.toNat_natCast] at e
    have k1 : (i : Int) * s ≤ 1000000 * s := Int.mul_le_mul_of_nonneg_right (by omega) (by omega)
    have k2 : 0 ≤ (i : Int) * s := Int.mul_nonneg (by omega) (by omega)
    refine W.loop ?_
    unfold b41_0
    repeat' first | (apply WO.mul; exact rfl; exact rfl; omega) | apply W.seq | apply SQn | apply W.region | apply WO.nil | apply W.block | apply W.ret | apply W.exit | apply W.skip | apply SQr | apply SQe | apply BQn | apply BQr | apply BQe | (apply BQo; exact rfl) | apply LQe | apply LQr | (apply W.condT; exact rfl) | (apply W.condF; exact rfl) | (apply W.cond; exact rfl; all_goals intro _) | (apply WO.lss; exact rfl; exact rfl; all_goals first | (intro _; exfalso; omega) | intro _) | (apply WO.gtr; exact rfl; exact rfl; all_goals first | (intro _; exfalso; omega) | intro _) | (apply WO.add; exact rfl; exact rfl; omega) | (apply WO.mul; exact rfl; exact rfl; omega) | (apply WO.iav; exact rfl; exact rfl; omega) | (apply WO.ias; exact rfl; exact rfl; omega) | (apply WO.lda; exact rfl; exact fun _ => rfl; (first | omega | (simp only [List.length_set]; omega) | (simp; omega)); decide; exact rfl; case ia => infer_instance) | (apply WO.lsa; exact rfl; (first | exact rfl | assumption | exact at_new | (apply at_old; assumption) | (apply at_put; first | assumption | (simp only [put_length]; assumption))); exact fun _ => rfl; (first | omega | (simp only [List.length_set]; omega) | (simp; omega)); decide; exact rfl; case ia => infer_instance) | (apply WO.hlv; exact rfl; exact rfl; exact rfl) | (apply WO.hpv; exact rfl; exact rfl; exact rfl) | (apply WO.hnv; exact rfl; exact rfl; exact rfl) | (apply WO.pl; exact rfl; exact rfl) | (apply WO.pp; exact rfl; exact rfl)
    · rename_i g1 g2
      rw [Int.toNat_natCast] at g2
      rw [decide_eq_true g2, if_pos rfl] at e
      rw [e] at h2
      exact h2 (by omega) _ _ _
    · rename_i g1 g2
      rw [Int.toNat_natCast] at g2
      rw [decide_eq_false (by omega), if_neg (by decide)] at e
      rw [e] at h1 h2
      exact LQn (loop41 l s t hs hl r (i + 1) _ _ (by omega) h1 h2)
/-- The time of the first sample above, or -1. -/
def timeAt (l : List Int) (s t : Int) : Int := if firstAt l t < 0 then -1 else firstAt l t * s
theorem w41 (hft : M.FT = FT) (l : List Int) (s t : Int) (hs : 1 ≤ s ∧ s ≤ 10000) (hl : l.length < 1000000) : Run M 41 [.vs (ints l) l.length cap, .int .i64 s, .int .i64 t] [] ⟨.int .i64 (timeAt l s t), [], []⟩ := by
  refine run_of_W (by rw [hft]; exact ft41) (by simp) ?_
  unfold b41
  simp only [List.map_cons, List.map_nil, List.getElem?_cons_zero, List.getElem?_cons_succ, List.getElem?_nil, Option.getD_some, Option.getD_none]
  repeat' first | apply W.seq | apply SQn | apply W.region | apply WO.nil | apply W.block | apply W.ret | apply W.exit | apply W.skip | apply SQr | apply SQe | apply BQn | apply BQr | apply BQe | (apply BQo; exact rfl) | apply LQe | apply LQr | (apply W.condT; exact rfl) | (apply W.condF; exact rfl) | (apply W.cond; exact rfl; all_goals intro _) | (apply WO.pl; exact rfl; exact rfl) | (apply WO.pp; exact rfl; exact rfl)
  refine loop41 l s t hs hl l.length 0 _ _ (by omega) (fun h a4 lo wr => ?_) (fun h a4 lo wr => ?_)
  · have e : timeAt l s t = -1 := by
      rw [List.drop_zero] at h
      rw [timeAt, if_pos (by unfold firstAt; omega)]
    rw [e]
    repeat' first | apply W.seq | apply SQn | apply W.region | apply WO.nil | apply W.block | apply W.ret | apply W.exit | apply W.skip | apply SQr | apply SQe | apply BQn | apply BQr | apply BQe | (apply BQo; exact rfl) | apply LQe | apply LQr | (apply W.condT; exact rfl) | (apply W.condF; exact rfl) | (apply W.cond; exact rfl; all_goals intro _) | (apply WO.pl; exact rfl; exact rfl) | (apply WO.pp; exact rfl; exact rfl)
    exact ⟨.inr rfl, rfl, _, rfl, rfl, rfl⟩
  · have e : timeAt l s t = idxP (fun x => decide (t < x)) (l.drop 0) 0 * s := by
      rw [timeAt, firstAt, List.drop_zero, if_neg (by rw [List.drop_zero] at h; omega)]
    rw [e]
    repeat' first | apply W.seq | apply SQn | apply W.region | apply WO.nil | apply W.block | apply W.ret | apply W.exit | apply W.skip | apply SQr | apply SQe | apply BQn | apply BQr | apply BQe | (apply BQo; exact rfl) | apply LQe | apply LQr | (apply W.condT; exact rfl) | (apply W.condF; exact rfl) | (apply W.cond; exact rfl; all_goals intro _) | (apply WO.pl; exact rfl; exact rfl) | (apply WO.pp; exact rfl; exact rfl)
    exact ⟨.inr rfl, rfl, _, rfl, rfl, rfl⟩
theorem w42 (hft : M.FT = FT) (a e b w : Int) : Run M 42 [.int .i64 a, .int .i64 e, .int .i64 b, .int .i64 w] [] ⟨.bool (if b ≠ 0 then decide (a = 0 ∧ e = b) else decide (e = 0 ∧ a = w)), [], []⟩ := by
  refine run_of_W (by rw [hft]; exact ft42) (by simp) ?_
  unfold b42
  simp only [List.map_cons, List.map_nil, List.getElem?_cons_zero, List.getElem?_cons_succ, List.getElem?_nil, Option.getD_some, Option.getD_none]
  repeat' first | apply W.seq | apply SQn | apply W.region | apply WO.nil | apply W.block | apply W.ret | apply W.exit | apply W.skip | apply SQr | apply SQe | apply BQn | apply BQr | apply BQe | (apply BQo; exact rfl) | apply LQe | apply LQr | (apply W.condT; exact rfl) | (apply W.condF; exact rfl) | (apply W.cond; exact rfl; all_goals intro _) | (apply WO.gT; exact rfl) | (apply WO.gF; exact rfl) | (apply WO.sT; exact rfl) | (apply WO.sF; exact rfl) | (apply WO.sU; exact rfl) | (apply WO.eql; exact rfl; exact rfl; all_goals first | (intro _; exfalso; omega) | intro _) | (apply WO.neq; exact rfl; exact rfl; all_goals first | (intro _; exfalso; omega) | intro _) | (apply WO.pkT; exact rfl; exact rfl) | (apply WO.pkF; exact rfl; exact rfl) | (apply WO.seql; exact rfl; exact rfl; all_goals first | (intro h; exact absurd h (by decide)) | (intro h; exact absurd rfl h) | (intro h; contradiction) | intro _) | (apply WO.sneq; exact rfl; exact rfl; all_goals first | (intro h; exact absurd h (by decide)) | (intro h; exact absurd rfl h) | (intro h; contradiction) | intro _) | (apply WO.pl; exact rfl; exact rfl) | (apply WO.pp; exact rfl; exact rfl)
  all_goals exact ⟨.inr rfl, rfl, _, rfl, congrArg AV.bool (by simp_all), rfl⟩
/-! False starts. -/
def isFalse (x : Int) : Bool := decide (0 ≤ x) && decide (x < 1000)
theorem isF_t {x : Int} (h1 : 0 ≤ x) (h2 : x < 1000) : isFalse x = true := by simp [isFalse, h1, h2]
theorem isF_f {x : Int} (h : x < 0 ∨ 1000 ≤ x) : ¬ isFalse x = true := by simp [isFalse]; omega
def lanes : List Int → Nat → List Int
  | [], _ => []
  | x :: l, i => if isFalse x then ((i : Int) + 1) :: lanes l (i + 1) else lanes l (i + 1)
theorem lanes_drop {l : List Int} {i : Nat} (h : i < l.length) : lanes (l.drop i) i = if isFalse l[i]! then ((i : Int) + 1) :: lanes (l.drop (i + 1)) (i + 1) else lanes (l.drop (i + 1)) (i + 1) := by
  rw [List.drop_eq_getElem_cons h, getElem!_pos l i h, lanes]
theorem lanes_len : ∀ (l : List Int) (i : Nat), (lanes l i).length ≤ l.length
  | [], _ => Nat.le_refl _
  | x :: l, i => by
    rw [lanes]
    have := lanes_len l (i + 1)
    split <;> simp <;> omega
def reactE (l : List Int) : Int := if 10 < l.length then 5 else if l.any (fun x => outI x (-1) 863999999) then 3 else 0
def OutS (hp : Heap) (o : AV) (acc : List Int) : Prop := (acc = [] ∧ o = .nilsl) ∨ ∃ c, acc ≠ [] ∧ o = .sl c 0 acc.length 1 none ∧ hp.at c = some (.cells (ints acc) 3)
theorem OutS.push {t : Nat} {M : Mach} {x : Int} {l : List IOper} {pe : List AV} {lo : List (Nat × AV)} {hp : Heap} {df wr : List Nat} {a b : IOpd} {o : AV} {acc : List Int} {Q : StW → Prop} (h : OutS hp o acc) (ha : (St.mk pe lo (hp ++ [some (.cells [.int .i64 x] 3)]) df).opd a = some o) (hb : (St.mk pe lo (hp ++ [some (.cells [.int .i64 x] 3)]) df).opd b = some (.sl hp.length 0 1 1 (some 1)))
    (hn : acc.length < 1000000) (hQ : ∀ (H : Heap) (w' : List Nat) o', OutS H o' (acc ++ [x]) → WO M l ⟨⟨pe, (t, o') :: lo, H, df⟩, w'⟩ Q) : WO M (⟨.l t, .append 3 1 8 a b, none⟩ :: l) ⟨⟨pe, lo, hp ++ [some (.cells [.int .i64 x] 3)], df⟩, wr⟩ Q := by
  rcases h with ⟨rfl, rfl⟩ | ⟨c, _, rfl, hc⟩
  · have hs : sliceCells (hp ++ [some (.cells [.int .i64 x] 3)]) (.sl hp.length 0 1 1 (some 1)) = some ([.int .i64 x], 1) := by
      simp [sliceCells, at_new, cut]
    refine WO.apn ha hb hs ⟨rfl, by decide, rfl⟩ ⟨by decide, by decide⟩ (hQ _ _ _ (.inr ⟨_, by simp, rfl, at_new⟩))
  · refine WO.app1 ha hb rfl hc ((arr_length (f := fun x : Int => [AV.int .i64 x]) (esz := 1) (fun _ => rfl) acc).trans (Nat.mul_one _)) (.inl rfl) hn (fun H w' h1 h2 _ => hQ H w' _ (.inr ⟨hp.length + 1, by simp, by simp, ?_⟩))
    rw [h2]
    simp [ints, arr]

theorem loop46 (l : List Int) (hl : l.length < 100000) {Q : Ex → StW → Prop} : ∀ (r i : Nat) (o : AV) (acc : List Int) (hp : Heap) (lo : List (Nat × AV)) (wr : List Nat), i + r = l.length → acc.length ≤ i → OutS hp o acc →
    (∀ o hp a3 lo wr, OutS hp o (acc ++ lanes (l.drop i) i) → Q (.exit 0) ⟨⟨[.vs (ints l) l.length cap, .nilsl, o, a3], lo, hp, []⟩, wr⟩) →
    W M (.loop b46_0) ⟨⟨[.vs (ints l) l.length cap, .nilsl, o, .int .i64 i], lo, hp, []⟩, wr⟩ Q := by
  intro r
  induction r with
  | zero =>
    intro i o acc hp lo wr hi ha ho hQ
    obtain rfl : i = l.length := by omega
    refine W.loop ?_
    unfold b46_0
    repeat' first | apply W.seq | apply SQn | apply W.region | apply WO.nil | apply W.block | apply W.ret | apply W.exit | apply W.skip | apply SQr | apply SQe | apply BQn | apply BQr | apply BQe | (apply BQo; exact rfl) | apply LQe | apply LQr | (apply W.condT; exact rfl) | (apply W.condF; exact rfl) | (apply W.cond; exact rfl; all_goals intro _) | (apply WO.gT; exact rfl) | (apply WO.gF; exact rfl) | (apply WO.sT; exact rfl) | (apply WO.sF; exact rfl) | (apply WO.sU; exact rfl) | (apply WO.lss; exact rfl; exact rfl; all_goals first | (intro _; exfalso; omega) | intro _) | (apply WO.geq; exact rfl; exact rfl; all_goals first | (intro _; exfalso; omega) | intro _) | (apply WO.pkT; exact rfl; exact rfl) | (apply WO.pkF; exact rfl; exact rfl) | (apply WO.add; exact rfl; exact rfl; omega) | (apply WO.iav; exact rfl; exact rfl; omega) | (apply WO.ias; exact rfl; exact rfl; omega) | (apply WO.lda; exact rfl; exact fun _ => rfl; (first | omega | (simp only [List.length_set]; omega) | (simp; omega)); decide; exact rfl; case ia => infer_instance) | (apply WO.lsa; exact rfl; (first | exact rfl | assumption | exact at_new | (apply at_old; assumption) | (apply at_put; first | assumption | (simp only [put_length]; assumption))); exact fun _ => rfl; (first | omega | (simp only [List.length_set]; omega) | (simp; omega)); decide; exact rfl; case ia => infer_instance) | (apply WO.hlv; exact rfl; exact rfl; exact rfl) | (apply WO.hpv; exact rfl; exact rfl; exact rfl) | (apply WO.hnv; exact rfl; exact rfl; exact rfl) | (apply WO.pl; exact rfl; exact rfl) | (apply WO.pp; exact rfl; exact rfl)
    exact hQ _ _ _ _ _ (by simpa [lanes] using ho)
  | succ r ih =>
    intro i o acc hp lo wr hi ha ho hQ
    have e := lanes_drop (l := l) (i := (i : Int).toNat) (by omega)
    rw [Int.toNat_natCast] at e
    have hlen : acc.length < 1000000 := by omega
    refine W.loop ?_
    unfold b46_0
    repeat' first | apply W.seq | apply SQn | apply W.region | apply WO.nil | apply W.block | apply W.ret | apply W.exit | apply W.skip | apply SQr | apply SQe | apply BQn | apply BQr | apply BQe | (apply BQo; exact rfl) | apply LQe | apply LQr | (apply W.condT; exact rfl) | (apply W.condF; exact rfl) | (apply W.cond; exact rfl; all_goals intro _) | (apply WO.gT; exact rfl) | (apply WO.gF; exact rfl) | (apply WO.sT; exact rfl) | (apply WO.sF; exact rfl) | (apply WO.sU; exact rfl) | (apply WO.lss; exact rfl; exact rfl; all_goals first | (intro _; exfalso; omega) | intro _) | (apply WO.geq; exact rfl; exact rfl; all_goals first | (intro _; exfalso; omega) | intro _) | (apply WO.pkT; exact rfl; exact rfl) | (apply WO.pkF; exact rfl; exact rfl) | (apply WO.add; exact rfl; exact rfl; omega) | (refine OutS.push ho rfl rfl hlen (fun H w' o' ho' => ?_)) | (apply WO.iav; exact rfl; exact rfl; omega) | (apply WO.ias; exact rfl; exact rfl; omega) | (apply WO.lda; exact rfl; exact fun _ => rfl; (first | omega | (simp only [List.length_set]; omega) | (simp; omega)); decide; exact rfl; case ia => infer_instance) | (apply WO.lsa; exact rfl; (first | exact rfl | assumption | exact at_new | (apply at_old; assumption) | (apply at_put; first | assumption | (simp only [put_length]; assumption))); exact fun _ => rfl; (first | omega | (simp only [List.length_set]; omega) | (simp; omega)); decide; exact rfl; case ia => infer_instance) | (apply WO.hlv; exact rfl; exact rfl; exact rfl) | (apply WO.hpv; exact rfl; exact rfl; exact rfl) | (apply WO.hnv; exact rfl; exact rfl; exact rfl) | (apply WO.pl; exact rfl; exact rfl) | (apply WO.pp; exact rfl; exact rfl)
    · rename_i g1 g2
      rw [Int.toNat_natCast] at g1 g2
      rw [if_pos (isF_t g1 g2)] at e
      exact LQn (ih (i + 1) o' (acc ++ [(i : Int) + 1]) H _ _ (by omega) (by simp; omega) ho' (fun o hp a3 lo wr h => hQ o hp a3 lo wr (by rw [e]; simpa using h)))
    · rename_i g1 g2
      rw [Int.toNat_natCast] at g1 g2
      rw [if_neg (isF_f (.inr g2))] at e
      exact LQn (ih (i + 1) o acc hp _ _ (by omega) (by omega) ho (fun o hp a3 lo wr h => hQ o hp a3 lo wr (by rw [e]; exact h)))
    · rename_i g1
      rw [Int.toNat_natCast] at g1
      rw [if_neg (isF_f (.inl g1))] at e
      exact LQn (ih (i + 1) o acc hp _ _ (by omega) (by omega) ho (fun o hp a3 lo wr h => hQ o hp a3 lo wr (by rw [e]; exact h)))

theorem out_end {hp : Heap} {o : AV} {acc : List Int} (h : OutS hp o acc) : OutS (if (tupA [o]).top ≤ 0 then [] else hp) o acc := by
  rcases h with ⟨h1, rfl⟩ | ⟨c, h0, rfl, h2⟩
  · exact .inl ⟨h1, rfl⟩
  · refine .inr ⟨c, h0, rfl, ?_⟩
    rw [if_neg (by simp [tupA, AV.top])]
    exact h2
theorem w46 (hft : M.FT = FT) (l : List Int) (hl : l.length < 100000) : ∃ v hh, OutS hh v (lanes l 0) ∧ Run M 46 [.vs (ints l) l.length cap] [] ⟨v, hh, []⟩ := by
  refine run_ofE (P := fun v hh => OutS hh v (lanes l 0)) (by rw [hft]; exact ft46) (by simp) ?_
  unfold b46
  simp only [List.map_cons, List.map_nil, List.getElem?_cons_zero, List.getElem?_cons_succ, List.getElem?_nil, Option.getD_some, Option.getD_none]
  repeat' first | apply W.seq | apply SQn | apply W.region | apply WO.nil | apply W.block | apply W.ret | apply W.exit | apply W.skip | apply SQr | apply SQe | apply BQn | apply BQr | apply BQe | (apply BQo; exact rfl) | apply LQe | apply LQr | (apply W.condT; exact rfl) | (apply W.condF; exact rfl) | (apply W.cond; exact rfl; all_goals intro _) | (apply WO.pl; exact rfl; exact rfl) | (apply WO.pp; exact rfl; exact rfl)
  refine loop46 l hl l.length 0 _ [] _ _ _ (by omega) (Nat.le_refl _) (.inl ⟨rfl, rfl⟩) (fun o hp a3 lo wr ho => ?_)
  rw [List.nil_append, List.drop_zero] at ho
  repeat' first | apply W.seq | apply SQn | apply W.region | apply WO.nil | apply W.block | apply W.ret | apply W.exit | apply W.skip | apply SQr | apply SQe | apply BQn | apply BQr | apply BQe | (apply BQo; exact rfl) | apply LQe | apply LQr | (apply W.condT; exact rfl) | (apply W.condF; exact rfl) | (apply W.cond; exact rfl; all_goals intro _) | (apply WO.pl; exact rfl; exact rfl) | (apply WO.pp; exact rfl; exact rfl)
  exact ⟨.inr rfl, rfl, _, rfl, out_end ho⟩

theorem loop43 (l : List Int) (hl : l.length < 100000) (a3 a4 : AV) {Q : Ex → StW → Prop} : ∀ (r i : Nat) (o a6 a7 : AV) (acc : List Int) (hp : Heap) (lo : List (Nat × AV)) (wr : List Nat), i + r = l.length → acc.length ≤ i → OutS hp o acc →
    (∀ o hp a6 a7 lo wr, OutS hp o (acc ++ lanes (l.drop i) i) → Q (.exit 0) ⟨⟨[.vs (ints l) l.length cap, .nilsl, .int .i64 0, a3, a4, o, a6, a7, .vs (ints l) l.length cap, .int .i64 l.length, .int .i64 l.length], lo, hp, []⟩, wr⟩) →
    W M (.loop b43_0) ⟨⟨[.vs (ints l) l.length cap, .nilsl, .int .i64 0, a3, a4, o, a6, a7, .vs (ints l) l.length cap, .int .i64 l.length, .int .i64 i], lo, hp, []⟩, wr⟩ Q := by
  intro r
  induction r with
  | zero =>
    intro i o a6 a7 acc hp lo wr hi ha ho hQ
    obtain rfl : i = l.length := by omega
    refine W.loop ?_
    unfold b43_0
    repeat' first | apply W.seq | apply SQn | apply W.region | apply WO.nil | apply W.block | apply W.ret | apply W.exit | apply W.skip | apply SQr | apply SQe | apply BQn | apply BQr | apply BQe | (apply BQo; exact rfl) | apply LQe | apply LQr | (apply W.condT; exact rfl) | (apply W.condF; exact rfl) | (apply W.cond; exact rfl; all_goals intro _) | (apply WO.gT; exact rfl) | (apply WO.gF; exact rfl) | (apply WO.sT; exact rfl) | (apply WO.sF; exact rfl) | (apply WO.sU; exact rfl) | (apply WO.lss; exact rfl; exact rfl; all_goals first | (intro _; exfalso; omega) | intro _) | (apply WO.geq; exact rfl; exact rfl; all_goals first | (intro _; exfalso; omega) | intro _) | (apply WO.pkT; exact rfl; exact rfl) | (apply WO.pkF; exact rfl; exact rfl) | (apply WO.add; exact rfl; exact rfl; omega) | (apply WO.iav; exact rfl; exact rfl; omega) | (apply WO.ias; exact rfl; exact rfl; omega) | (apply WO.lda; exact rfl; exact fun _ => rfl; (first | omega | (simp only [List.length_set]; omega) | (simp; omega)); decide; exact rfl; case ia => infer_instance) | (apply WO.lsa; exact rfl; (first | exact rfl | assumption | exact at_new | (apply at_old; assumption) | (apply at_put; first | assumption | (simp only [put_length]; assumption))); exact fun _ => rfl; (first | omega | (simp only [List.length_set]; omega) | (simp; omega)); decide; exact rfl; case ia => infer_instance) | (apply WO.hlv; exact rfl; exact rfl; exact rfl) | (apply WO.hpv; exact rfl; exact rfl; exact rfl) | (apply WO.hnv; exact rfl; exact rfl; exact rfl) | (apply WO.pl; exact rfl; exact rfl) | (apply WO.pp; exact rfl; exact rfl)
    exact hQ _ _ _ _ _ _ (by simpa [lanes] using ho)
  | succ r ih =>
    intro i o a6 a7 acc hp lo wr hi ha ho hQ
    have e := lanes_drop (l := l) (i := (i : Int).toNat) (by omega)
    rw [Int.toNat_natCast] at e
    have hlen : acc.length < 1000000 := by omega
    refine W.loop ?_
    unfold b43_0
    repeat' first | apply W.seq | apply SQn | apply W.region | apply WO.nil | apply W.block | apply W.ret | apply W.exit | apply W.skip | apply SQr | apply SQe | apply BQn | apply BQr | apply BQe | (apply BQo; exact rfl) | apply LQe | apply LQr | (apply W.condT; exact rfl) | (apply W.condF; exact rfl) | (apply W.cond; exact rfl; all_goals intro _) | (apply WO.gT; exact rfl) | (apply WO.gF; exact rfl) | (apply WO.sT; exact rfl) | (apply WO.sF; exact rfl) | (apply WO.sU; exact rfl) | (apply WO.lss; exact rfl; exact rfl; all_goals first | (intro _; exfalso; omega) | intro _) | (apply WO.geq; exact rfl; exact rfl; all_goals first | (intro _; exfalso; omega) | intro _) | (apply WO.pkT; exact rfl; exact rfl) | (apply WO.pkF; exact rfl; exact rfl) | (apply WO.add; exact rfl; exact rfl; omega) | (refine OutS.push ho rfl rfl hlen (fun H w' o' ho' => ?_)) | (apply WO.iav; exact rfl; exact rfl; omega) | (apply WO.ias; exact rfl; exact rfl; omega) | (apply WO.lda; exact rfl; exact fun _ => rfl; (first | omega | (simp only [List.length_set]; omega) | (simp; omega)); decide; exact rfl; case ia => infer_instance) | (apply WO.lsa; exact rfl; (first | exact rfl | assumption | exact at_new | (apply at_old; assumption) | (apply at_put; first | assumption | (simp only [put_length]; assumption))); exact fun _ => rfl; (first | omega | (simp only [List.length_set]; omega) | (simp; omega)); decide; exact rfl; case ia => infer_instance) | (apply WO.hlv; exact rfl; exact rfl; exact rfl) | (apply WO.hpv; exact rfl; exact rfl; exact rfl) | (apply WO.hnv; exact rfl; exact rfl; exact rfl) | (apply WO.pl; exact rfl; exact rfl) | (apply WO.pp; exact rfl; exact rfl)
    · rename_i g1 g2
      rw [Int.toNat_natCast] at g1 g2
      rw [if_pos (isF_t g1 g2)] at e
      exact LQn (ih (i + 1) o' _ _ (acc ++ [(i : Int) + 1]) H _ _ (by omega) (by simp; omega) ho' (fun o hp a6 a7 lo wr h => hQ o hp a6 a7 lo wr (by rw [e]; simpa using h)))
    · rename_i g1 g2
      rw [Int.toNat_natCast] at g1 g2
      rw [if_neg (isF_f (.inr g2))] at e
      exact LQn (ih (i + 1) o _ _ acc hp _ _ (by omega) (by omega) ho (fun o hp a6 a7 lo wr h => hQ o hp a6 a7 lo wr (by rw [e]; exact h)))
    · rename_i g1
      rw [Int.toNat_natCast] at g1
      rw [if_neg (isF_f (.inl g1))] at e
      exact LQn (ih (i + 1) o _ _ acc hp _ _ (by omega) (by omega) ho (fun o hp a6 a7 lo wr h => hQ o hp a6 a7 lo wr (by rw [e]; exact h)))

theorem loop45 (c87 : ∀ x lo hi h, M.ext 87 [.int .i64 x, .int .i64 lo, .int .i64 hi] h = some ⟨.bool (outI x lo hi), h, []⟩) (l : List Int) (hl : l.length < 1000000) {Q : Ex → StW → Prop} : ∀ (r i : Nat) (lo : List (Nat × AV)) (wr : List Nat), i + r = l.length →
    ((l.drop i).any (fun x => outI x (-1) 863999999) = false → ∀ a4 lo wr, Q (.exit 0) ⟨⟨[.vs (ints l) l.length cap, .int .i64 0, a4], lo, [], []⟩, wr⟩) →
    ((l.drop i).any (fun x => outI x (-1) 863999999) = true → ∀ a4 lo wr, Q .ret ⟨⟨[.vs (ints l) l.length cap, .int .i64 3, a4], lo, [], []⟩, wr⟩) →
    W M (.loop b45_0) ⟨⟨[.vs (ints l) l.length cap, .int .i64 0, .int .i64 i], lo, [], []⟩, wr⟩ Q
  | 0, i, lo, wr, hi, h1, h2 => by
    obtain rfl : i = l.length := by omega
    refine W.loop ?_
    unfold b45_0
    repeat' first | apply W.seq | apply SQn | apply W.region | apply WO.nil | apply W.block | apply W.ret | apply W.exit | apply W.skip | apply SQr | apply SQe | apply BQn | apply BQr | apply BQe | (apply BQo; exact rfl) | apply LQe | apply LQr | (apply W.condT; exact rfl) | (apply W.condF; exact rfl) | (apply W.cond; exact rfl; all_goals intro _) | (apply WO.lss; exact rfl; exact rfl; all_goals first | (intro _; exfalso; omega) | intro _) | (apply WO.add; exact rfl; exact rfl; omega) | (apply WO.iav; exact rfl; exact rfl; omega) | (apply WO.ias; exact rfl; exact rfl; omega) | (apply WO.lda; exact rfl; exact fun _ => rfl; (first | omega | (simp only [List.length_set]; omega) | (simp; omega)); decide; exact rfl; case ia => infer_instance) | (apply WO.lsa; exact rfl; (first | exact rfl | assumption | exact at_new | (apply at_old; assumption) | (apply at_put; first | assumption | (simp only [put_length]; assumption))); exact fun _ => rfl; (first | omega | (simp only [List.length_set]; omega) | (simp; omega)); decide; exact rfl; case ia => infer_instance) | (apply WO.clb; exact rfl; exact rfl; exact rfl; all_goals first | (intro h; exact absurd h (by decide)) | intro _) | (apply WO.cll; exact rfl; exact rfl; exact rfl) | (apply WO.hlv; exact rfl; exact rfl; exact rfl) | (apply WO.hpv; exact rfl; exact rfl; exact rfl) | (apply WO.hnv; exact rfl; exact rfl; exact rfl) | (apply WO.pl; exact rfl; exact rfl) | (apply WO.pp; exact rfl; exact rfl)
    exact h1 (by simp) _ _ _
  | r + 1, i, lo, wr, hi, h1, h2 => by
    have e := any_drop (p := fun x => outI x (-1) 863999999) (l := l) (i := (i : Int).toNat) (by omega)
    have q := c87 l[((i : Int)).toNat]! (-1) 863999999
    rw [Int.toNat_natCast] at e
    refine W.loop ?_
    cases hp : outI l[((i : Int)).toNat]! (-1) 863999999
    · rw [hp] at q
      rw [Int.toNat_natCast] at hp
      rw [hp, Bool.false_or] at e
      rw [e] at h1 h2
      unfold b45_0
      repeat' first | apply W.seq | apply SQn | apply W.region | apply WO.nil | apply W.block | apply W.ret | apply W.exit | apply W.skip | apply SQr | apply SQe | apply BQn | apply BQr | apply BQe | (apply BQo; exact rfl) | apply LQe | apply LQr | (apply W.condT; exact rfl) | (apply W.condF; exact rfl) | (apply W.cond; exact rfl; all_goals intro _) | (apply WO.lss; exact rfl; exact rfl; all_goals first | (intro _; exfalso; omega) | intro _) | (apply WO.add; exact rfl; exact rfl; omega) | (apply WO.cll; exact rfl; exact rfl; first | exact q _) | (apply WO.iav; exact rfl; exact rfl; omega) | (apply WO.ias; exact rfl; exact rfl; omega) | (apply WO.lda; exact rfl; exact fun _ => rfl; (first | omega | (simp only [List.length_set]; omega) | (simp; omega)); decide; exact rfl; case ia => infer_instance) | (apply WO.lsa; exact rfl; (first | exact rfl | assumption | exact at_new | (apply at_old; assumption) | (apply at_put; first | assumption | (simp only [put_length]; assumption))); exact fun _ => rfl; (first | omega | (simp only [List.length_set]; omega) | (simp; omega)); decide; exact rfl; case ia => infer_instance) | (apply WO.clb; exact rfl; exact rfl; exact rfl; all_goals first | (intro h; exact absurd h (by decide)) | intro _) | (apply WO.cll; exact rfl; exact rfl; exact rfl) | (apply WO.hlv; exact rfl; exact rfl; exact rfl) | (apply WO.hpv; exact rfl; exact rfl; exact rfl) | (apply WO.hnv; exact rfl; exact rfl; exact rfl) | (apply WO.pl; exact rfl; exact rfl) | (apply WO.pp; exact rfl; exact rfl)
      exact LQn (loop45 c87 l hl r (i + 1) _ _ (by omega) h1 h2)
    · rw [hp] at q
      rw [Int.toNat_natCast] at hp
      rw [hp, Bool.true_or] at e
      unfold b45_0
      repeat' first | apply W.seq | apply SQn | apply W.region | apply WO.nil | apply W.block | apply W.ret | apply W.exit | apply W.skip | apply SQr | apply SQe | apply BQn | apply BQr | apply BQe | (apply BQo; exact rfl) | apply LQe | apply LQr | (apply W.condT; exact rfl) | (apply W.condF; exact rfl) | (apply W.cond; exact rfl; all_goals intro _) | (apply WO.lss; exact rfl; exact rfl; all_goals first | (intro _; exfalso; omega) | intro _) | (apply WO.add; exact rfl; exact rfl; omega) | (apply WO.cll; exact rfl; exact rfl; first | exact q _) | (apply WO.iav; exact rfl; exact rfl; omega) | (apply WO.ias; exact rfl; exact rfl; omega) | (apply WO.lda; exact rfl; exact fun _ => rfl; (first | omega | (simp only [List.length_set]; omega) | (simp; omega)); decide; exact rfl; case ia => infer_instance) | (apply WO.lsa; exact rfl; (first | exact rfl | assumption | exact at_new | (apply at_old; assumption) | (apply at_put; first | assumption | (simp only [put_length]; assumption))); exact fun _ => rfl; (first | omega | (simp only [List.length_set]; omega) | (simp; omega)); decide; exact rfl; case ia => infer_instance) | (apply WO.clb; exact rfl; exact rfl; exact rfl; all_goals first | (intro h; exact absurd h (by decide)) | intro _) | (apply WO.cll; exact rfl; exact rfl; exact rfl) | (apply WO.hlv; exact rfl; exact rfl; exact rfl) | (apply WO.hpv; exact rfl; exact rfl; exact rfl) | (apply WO.hnv; exact rfl; exact rfl; exact rfl) | (apply WO.pl; exact rfl; exact rfl) | (apply WO.pp; exact rfl; exact rfl)
      exact h2 e _ _ _
theorem w45 (hft : M.FT = FT) (c87 : ∀ x lo hi h, M.ext 87 [.int .i64 x, .int .i64 lo, .int .i64 hi] h = some ⟨.bool (outI x lo hi), h, []⟩) (l : List Int) (hl : l.length < 1000000) : Run M 45 [.vs (ints l) l.length cap] [] ⟨.int .i64 (reactE l), [], []⟩ := by
  refine run_of_W (by rw [hft]; exact ft45) (by simp) ?_
  unfold b45
  simp only [List.map_cons, List.map_nil, List.getElem?_cons_zero, List.getElem?_cons_succ, List.getElem?_nil, Option.getD_some, Option.getD_none]
  by_cases hm : 10 < l.length
  · repeat' first | apply W.seq | apply SQn | apply W.region | apply WO.nil | apply W.block | apply W.ret | apply W.exit | apply W.skip | apply SQr | apply SQe | apply BQn | apply BQr | apply BQe | (apply BQo; exact rfl) | apply LQe | apply LQr | (apply W.condT; exact rfl) | (apply W.condF; exact rfl) | (apply W.cond; exact rfl; all_goals intro _) | (apply WO.gtr; exact rfl; exact rfl; all_goals first | (intro _; exfalso; omega) | intro _) | (apply WO.pl; exact rfl; exact rfl) | (apply WO.pp; exact rfl; exact rfl)
    exact ⟨.inr rfl, rfl, _, rfl, by rw [reactE, if_pos hm]; rfl, rfl⟩
  · repeat' first | apply W.seq | apply SQn | apply W.region | apply WO.nil | apply W.block | apply W.ret | apply W.exit | apply W.skip | apply SQr | apply SQe | apply BQn | apply BQr | apply BQe | (apply BQo; exact rfl) | apply LQe | apply LQr | (apply W.condT; exact rfl) | (apply W.condF; exact rfl) | (apply W.cond; exact rfl; all_goals intro _) | (apply WO.gtr; exact rfl; exact rfl; all_goals first | (intro _; exfalso; omega) | intro _) | (apply WO.pl; exact rfl; exact rfl) | (apply WO.pp; exact rfl; exact rfl)
    refine loop45 c87 l hl l.length 0 _ _ (by omega) (fun h a4 lo wr => ?_) (fun h a4 lo wr => ?_)
    · rw [List.drop_zero] at h
      repeat' first | apply W.seq | apply SQn | apply W.region | apply WO.nil | apply W.block | apply W.ret | apply W.exit | apply W.skip | apply SQr | apply SQe | apply BQn | apply BQr | apply BQe | (apply BQo; exact rfl) | apply LQe | apply LQr | (apply W.condT; exact rfl) | (apply W.condF; exact rfl) | (apply W.cond; exact rfl; all_goals intro _) | (apply WO.gtr; exact rfl; exact rfl; all_goals first | (intro _; exfalso; omega) | intro _) | (apply WO.pl; exact rfl; exact rfl) | (apply WO.pp; exact rfl; exact rfl)
      exact ⟨.inr rfl, rfl, _, rfl, by rw [reactE, if_neg hm, h, if_neg (show ¬ (false = true) by decide)]; rfl, rfl⟩
    · rw [List.drop_zero] at h
      repeat' first | apply W.seq | apply SQn | apply W.region | apply WO.nil | apply W.block | apply W.ret | apply W.exit | apply W.skip | apply SQr | apply SQe | apply BQn | apply BQr | apply BQe | (apply BQo; exact rfl) | apply LQe | apply LQr | (apply W.condT; exact rfl) | (apply W.condF; exact rfl) | (apply W.cond; exact rfl; all_goals intro _) | (apply WO.gtr; exact rfl; exact rfl; all_goals first | (intro _; exfalso; omega) | intro _) | (apply WO.pl; exact rfl; exact rfl) | (apply WO.pp; exact rfl; exact rfl)
      exact ⟨.inr rfl, rfl, _, rfl, by rw [reactE, if_neg hm, h, if_pos rfl]; rfl, rfl⟩

theorem react_first (l : List Int) : firstNZ [if decide (10 < l.length) then 5 else 0, if l.any (fun x => outI x (-1) 863999999) then 3 else 0] = reactE l := by
  unfold reactE
  by_cases h : 10 < l.length
  · simp [firstNZ, h]
  · cases l.any (fun x => outI x (-1) 863999999) <;> simp [firstNZ, h]
theorem w43e (C : C39 M) (l : List Int) (hl : l.length < 100000) (hE : reactE l ≠ 0) : Run M 43 [.vs (ints l) l.length cap] [] ⟨.tup [.nilsl, .int .i64 (reactE l)], [], []⟩ := by
  have q119 := fun H => r119 (cap := cap) C.ft C.n119 C.n122 l (fun x => outI x (-1) 863999999) (fnV 124) H (by omega) (fun x => r124 C.ft C.n124 _ x)
  have hfe := react_first l
  have q90 : ∀ (a b : Int), M.ext 90 [.sl 0 0 2 1 (some 2)] ([some (.cells [.int .i64 a, .int .i64 b] 28)]) = some ⟨.int .i64 (firstNZ [a, b]), [some (.cells [.int .i64 a, .int .i64 b] 28)], []⟩ := fun a b => by
    have hb : Heap.at ([some (.cells (ints [a, b]) 28)]) 0 = some (.cells (ints [a, b]) 28) := rfl
    exact C.c90 _ [a, b] _ (ints_at hb rfl) (by simp)
  refine run_of_W (by rw [C.ft]; exact ft43) (by simp) ?_
  generalize l.any (fun x => outI x (-1) 863999999) = far at *
  generalize reactE l = E at *
  unfold b43
  simp only [List.map_cons, List.map_nil, List.getElem?_cons_zero, List.getElem?_cons_succ, List.getElem?_nil, Option.getD_some, Option.getD_none]
  by_cases hm : 10 < l.length
  · rw [decide_eq_true hm] at hfe
    have q := q90 (if true = true then 5 else 0) (if far = true then 3 else 0)
    rw [hfe] at q
    repeat' first | apply W.seq | apply SQn | apply W.region | apply WO.nil | apply W.block | apply W.ret | apply W.exit | apply W.skip | apply SQr | apply SQe | apply BQn | apply BQr | apply BQe | (apply BQo; exact rfl) | apply LQe | apply LQr | (apply W.condT; exact rfl) | (apply W.condF; exact rfl) | (apply W.cond; exact rfl; all_goals intro _) | (apply WO.gtr; exact rfl; exact rfl; all_goals first | (intro _; exfalso; omega) | intro _) | (apply WO.neq; exact rfl; exact rfl; all_goals first | (intro _; exfalso; omega) | intro _) | (apply WO.ct; exact rfl; exact rfl; first | exact q119 _) | (apply WO.ctn; exact rfl; exact rfl; first | exact q119 _) | (apply WD.ct; exact rfl; exact rfl; exact rfl; first | exact q119 _) | (apply WO.cll; exact rfl; exact rfl; first | exact C.c91 _ _ _ | exact q) | (apply WO.sneq; exact rfl; exact rfl; all_goals first | (intro h; exact absurd h (by decide)) | (intro h; exact absurd rfl h) | (intro h; contradiction) | intro _) | (apply WO.clb; exact rfl; exact rfl; exact rfl; all_goals first | (intro h; exact absurd h (by decide)) | intro _) | (apply WO.cll; exact rfl; exact rfl; exact rfl) | (apply WO.hlv; exact rfl; exact rfl; exact rfl) | (apply WO.hpv; exact rfl; exact rfl; exact rfl) | (apply WO.hnv; exact rfl; exact rfl; exact rfl) | (apply WO.pl; exact rfl; exact rfl) | (apply WO.pp; exact rfl; exact rfl)
    exact ⟨.inr rfl, rfl, _, rfl, rfl, rfl⟩
  · rw [decide_eq_false hm] at hfe
    have q := q90 (if false = true then 5 else 0) (if far = true then 3 else 0)
    rw [hfe] at q
    repeat' first | apply W.seq | apply SQn | apply W.region | apply WO.nil | apply W.block | apply W.ret | apply W.exit | apply W.skip | apply SQr | apply SQe | apply BQn | apply BQr | apply BQe | (apply BQo; exact rfl) | apply LQe | apply LQr | (apply W.condT; exact rfl) | (apply W.condF; exact rfl) | (apply W.cond; exact rfl; all_goals intro _) | (apply WO.gtr; exact rfl; exact rfl; all_goals first | (intro _; exfalso; omega) | intro _) | (apply WO.neq; exact rfl; exact rfl; all_goals first | (intro _; exfalso; omega) | intro _) | (apply WO.ct; exact rfl; exact rfl; first | exact q119 _) | (apply WO.ctn; exact rfl; exact rfl; first | exact q119 _) | (apply WD.ct; exact rfl; exact rfl; exact rfl; first | exact q119 _) | (apply WO.cll; exact rfl; exact rfl; first | exact C.c91 _ _ _ | exact q) | (apply WO.sneq; exact rfl; exact rfl; all_goals first | (intro h; exact absurd h (by decide)) | (intro h; exact absurd rfl h) | (intro h; contradiction) | intro _) | (apply WO.clb; exact rfl; exact rfl; exact rfl; all_goals first | (intro h; exact absurd h (by decide)) | intro _) | (apply WO.cll; exact rfl; exact rfl; exact rfl) | (apply WO.hlv; exact rfl; exact rfl; exact rfl) | (apply WO.hpv; exact rfl; exact rfl; exact rfl) | (apply WO.hnv; exact rfl; exact rfl; exact rfl) | (apply WO.pl; exact rfl; exact rfl) | (apply WO.pp; exact rfl; exact rfl)
    exact ⟨.inr rfl, rfl, _, rfl, rfl, rfl⟩
theorem out_end2 {hp : Heap} {o : AV} {acc : List Int} (h : OutS hp o acc) : OutS (if (AV.tup [o, .int .i64 0]).top ≤ 0 then [] else hp) o acc := by
  rcases h with ⟨h1, rfl⟩ | ⟨c, h0, rfl, h2⟩
  · exact .inl ⟨h1, rfl⟩
  · refine .inr ⟨c, h0, rfl, ?_⟩
    rw [if_neg (by simp [AV.top, topL])]
    exact h2
theorem w43 (C : C39 M) (l : List Int) (hl : l.length < 100000) (hE : reactE l = 0) : ∃ v hh, OutS hh v (lanes l 0) ∧ Run M 43 [.vs (ints l) l.length cap] [] ⟨.tup [v, .int .i64 0], hh, []⟩ := by
  have q119 := fun H => r119 (cap := cap) C.ft C.n119 C.n122 l (fun x => outI x (-1) 863999999) (fnV 124) H (by omega) (fun x => r124 C.ft C.n124 _ x)
  have hfe := react_first l
  rw [hE] at hfe
  have hm : ¬ 10 < l.length := fun h => by rw [reactE, if_pos h] at hE; exact absurd hE (by decide)
  rw [decide_eq_false hm] at hfe
  have q90 : ∀ (a b : Int), M.ext 90 [.sl 0 0 2 1 (some 2)] ([some (.cells [.int .i64 a, .int .i64 b] 28)]) = some ⟨.int .i64 (firstNZ [a, b]), [some (.cells [.int .i64 a, .int .i64 b] 28)], []⟩ := fun a b => by
    have hb : Heap.at ([some (.cells (ints [a, b]) 28)]) 0 = some (.cells (ints [a, b]) 28) := rfl
    exact C.c90 _ [a, b] _ (ints_at hb rfl) (by simp)
  obtain ⟨v, hh, ⟨o, rfl, ho⟩, hr⟩ := run_ofE (M := M) (f := 43) (ars := [.vs (ints l) l.length cap]) (P := fun v hh => ∃ o, v = .tup [o, .int .i64 0] ∧ OutS hh o (lanes l 0)) (by rw [C.ft]; exact ft43) (by simp) (by
    generalize l.any (fun x => outI x (-1) 863999999) = far at *
    have q := q90 (if false = true then 5 else 0) (if far = true then 3 else 0)
    rw [hfe] at q
    unfold b43
    simp only [List.map_cons, List.map_nil, List.getElem?_cons_zero, List.getElem?_cons_succ, List.getElem?_nil, Option.getD_some, Option.getD_none]
    repeat' first | apply W.seq | apply SQn | apply W.region | apply WO.nil | apply W.block | apply W.ret | apply W.exit | apply W.skip | apply SQr | apply SQe | apply BQn | apply BQr | apply BQe | (apply BQo; exact rfl) | apply LQe | apply LQr | (apply W.condT; exact rfl) | (apply W.condF; exact rfl) | (apply W.cond; exact rfl; all_goals intro _) | (apply WO.gtr; exact rfl; exact rfl; all_goals first | (intro _; exfalso; omega) | intro _) | (apply WO.neq; exact rfl; exact rfl; all_goals first | (intro _; exfalso; omega) | intro _) | (apply WO.ct; exact rfl; exact rfl; first | exact q119 _) | (apply WO.ctn; exact rfl; exact rfl; first | exact q119 _) | (apply WD.ct; exact rfl; exact rfl; exact rfl; first | exact q119 _) | (apply WO.cll; exact rfl; exact rfl; first | exact C.c91 _ _ _ | exact q) | (apply WO.sneq; exact rfl; exact rfl; all_goals first | (intro h; exact absurd h (by decide)) | (intro h; exact absurd rfl h) | (intro h; contradiction) | intro _) | (apply WO.clb; exact rfl; exact rfl; exact rfl; all_goals first | (intro h; exact absurd h (by decide)) | intro _) | (apply WO.cll; exact rfl; exact rfl; exact rfl) | (apply WO.hlv; exact rfl; exact rfl; exact rfl) | (apply WO.hpv; exact rfl; exact rfl; exact rfl) | (apply WO.hnv; exact rfl; exact rfl; exact rfl) | (apply WO.pl; exact rfl; exact rfl) | (apply WO.pp; exact rfl; exact rfl)
    refine loop43 l hl _ _ l.length 0 _ _ _ [] _ _ _ (by omega) (Nat.le_refl _) (.inl ⟨rfl, rfl⟩) (fun o hp a6 a7 lo wr ho => ?_)
    rw [List.nil_append, List.drop_zero] at ho
    repeat' first | apply W.seq | apply SQn | apply W.region | apply WO.nil | apply W.block | apply W.ret | apply W.exit | apply W.skip | apply SQr | apply SQe | apply BQn | apply BQr | apply BQe | (apply BQo; exact rfl) | apply LQe | apply LQr | (apply W.condT; exact rfl) | (apply W.condF; exact rfl) | (apply W.cond; exact rfl; all_goals intro _) | (apply WO.gtr; exact rfl; exact rfl; all_goals first | (intro _; exfalso; omega) | intro _) | (apply WO.neq; exact rfl; exact rfl; all_goals first | (intro _; exfalso; omega) | intro _) | (apply WO.sneq; exact rfl; exact rfl; all_goals first | (intro h; exact absurd h (by decide)) | (intro h; exact absurd rfl h) | (intro h; contradiction) | intro _) | (apply WO.clb; exact rfl; exact rfl; exact rfl; all_goals first | (intro h; exact absurd h (by decide)) | intro _) | (apply WO.cll; exact rfl; exact rfl; exact rfl) | (apply WO.hlv; exact rfl; exact rfl; exact rfl) | (apply WO.hpv; exact rfl; exact rfl; exact rfl) | (apply WO.hnv; exact rfl; exact rfl; exact rfl) | (apply WO.pl; exact rfl; exact rfl) | (apply WO.pp; exact rfl; exact rfl)
    exact ⟨.inr rfl, rfl, _, rfl, o, rfl, out_end2 ho⟩)
  exact ⟨o, hh, ho, hr⟩
end Go.Ab.Ch5


/-
  Own work: lists that are the same; the law FinishStarts.
-/
namespace Go.Ab.Ch5
variable {M : Mach}

theorem take_snoc {l : List Int} {i : Nat} (h : i < l.length) : l.take (i + 1) = l.take i ++ [l[i]!] := by
  rw [List.take_succ_eq_append_getElem h, getElem!_pos l i h]
theorem loop81 (l m : List Int) (hlm : l.length = m.length) (hl : l.length < 4611686018427387904) (c1 c2 : Option Nat) {Q : Ex → StW → Prop} (h1 : l = m → ∀ lo wr, Q (.exit 0) ⟨⟨[.vs (ints l) l.length c1, .vs (ints m) m.length c2, .bool false, .int .i64 l.length], lo, [], []⟩, wr⟩)
    (h2 : l ≠ m → ∀ i lo wr, Q .ret ⟨⟨[.vs (ints l) l.length c1, .vs (ints m) m.length c2, .bool false, i], lo, [], []⟩, wr⟩) : ∀ (r i : Nat), i + r = l.length → l.take i = m.take i → ∀ (lo : List (Nat × AV)) (wr : List Nat),
    W M (.loop b81_0) ⟨⟨[.vs (ints l) l.length c1, .vs (ints m) m.length c2, .bool false, .int .i64 i], lo, [], []⟩, wr⟩ Q
  | 0, i, hi, he, lo, wr => by
    obtain rfl : i = l.length := by omega
    rw [List.take_length, hlm, List.take_length] at he
    refine W.loop ?_
    unfold b81_0
    repeat' first | apply W.seq | apply SQn | apply W.region | apply WO.nil | apply W.block | apply W.ret | apply W.exit | apply W.skip | apply SQr | apply SQe | apply BQn | apply BQr | apply BQe | (apply BQo; exact rfl) | apply LQe | apply LQr | (apply W.drawro; exact rfl) | apply W.draw | apply WD.nil | (apply WD.gT; exact rfl) | (apply WD.gF; exact rfl) | (apply WD.sT; exact rfl) | (apply WD.sF; exact rfl) | (apply WD.sU; exact rfl) | (apply WD.pure1; exact rfl) | (apply WD.load1; exact rfl; exact rfl; exact rfl) | (apply W.condT; exact rfl) | (apply W.condF; exact rfl) | (apply W.cond; exact rfl; all_goals intro _) | (apply WO.lss; exact rfl; exact rfl; all_goals first | (intro _; exfalso; omega) | intro _) | (apply WO.neq; exact rfl; exact rfl; all_goals first | (intro _; exfalso; omega) | intro _) | (apply WO.add; exact rfl; exact rfl; omega) | (apply WO.iav; exact rfl; exact rfl; omega) | (apply WO.ias; exact rfl; exact rfl; omega) | (apply WO.lda; exact rfl; exact fun _ => rfl; (first | omega | (simp only [List.length_set]; omega) | (simp; omega)); decide; exact rfl; case ia => infer_instance) | (apply WO.lsa; exact rfl; (first | exact rfl | assumption | exact at_new | (apply at_old; assumption) | (apply at_put; first | assumption | (simp only [put_length]; assumption))); exact fun _ => rfl; (first | omega | (simp only [List.length_set]; omega) | (simp; omega)); decide; exact rfl; case ia => infer_instance) | (apply WO.sneq; exact rfl; exact rfl; all_goals first | (intro h; exact absurd h (by decide)) | (intro h; exact absurd rfl h) | (intro h; contradiction) | intro _) | (apply WO.hlv; exact rfl; exact rfl; exact rfl) | (apply WO.hpv; exact rfl; exact rfl; exact rfl) | (apply WO.hnv; exact rfl; exact rfl; exact rfl) | (apply WO.pl; exact rfl; exact rfl) | (apply WO.pp; exact rfl; exact rfl)
    · exact h1 he _ _
  | r + 1, i, hi, he, lo, wr => by
    have ei : ((i : Int)).toNat = i := by omega
    have b1 : ((i : Int)).toNat < l.length := by omega
    have b2 : ((i : Int)).toNat < m.length := by omega
    refine W.loop ?_
    unfold b81_0
    repeat' first | apply W.seq | apply SQn | apply W.region | apply WO.nil | apply W.block | apply W.ret | apply W.exit | apply W.skip | apply SQr | apply SQe | apply BQn | apply BQr | apply BQe | (apply BQo; exact rfl) | apply LQe | apply LQr | (apply W.drawro; exact rfl) | apply W.draw | apply WD.nil | (apply WD.gT; exact rfl) | (apply WD.gF; exact rfl) | (apply WD.sT; exact rfl) | (apply WD.sF; exact rfl) | (apply WD.sU; exact rfl) | (apply WD.pure1; exact rfl) | (apply WD.load1; exact rfl; exact rfl; exact rfl) | (apply W.condT; exact rfl) | (apply W.condF; exact rfl) | (apply W.cond; exact rfl; all_goals intro _) | (apply WO.lss; exact rfl; exact rfl; all_goals first | (intro _; exfalso; omega) | intro _) | (apply WO.neq; exact rfl; exact rfl; all_goals first | (intro _; exfalso; omega) | intro _) | (apply WO.add; exact rfl; exact rfl; omega) | (apply WO.iav; exact rfl; exact rfl; omega) | (apply WO.ias; exact rfl; exact rfl; omega) | (apply WO.lda; exact rfl; exact fun _ => rfl; (first | omega | (simp only [List.length_set]; omega) | (simp; omega)); decide; exact rfl; case ia => infer_instance) | (apply WO.lsa; exact rfl; (first | exact rfl | assumption | exact at_new | (apply at_old; assumption) | (apply at_put; first | assumption | (simp only [put_length]; assumption))); exact fun _ => rfl; (first | omega | (simp only [List.length_set]; omega) | (simp; omega)); decide; exact rfl; case ia => infer_instance) | (apply WO.sneq; exact rfl; exact rfl; all_goals first | (intro h; exact absurd h (by decide)) | (intro h; exact absurd rfl h) | (intro h; contradiction) | intro _) | (apply WO.hlv; exact rfl; exact rfl; exact rfl) | (apply WO.hpv; exact rfl; exact rfl; exact rfl) | (apply WO.hnv; exact rfl; exact rfl; exact rfl) | (apply WO.pl; exact rfl; exact rfl) | (apply WO.pp; exact rfl; exact rfl)
    · rename_i hne
      exact h2 (fun e => hne (by rw [e])) _ _ _
    · rename_i heq
      refine LQn (loop81 l m hlm hl c1 c2 h1 h2 r (i + 1) (by omega) ?_ _ _)
      rw [take_snoc (by omega), take_snoc (by omega), he]
      rw [ei] at heq
      rw [heq]
theorem w81 (hft : M.FT = FT) (l m : List Int) (c1 c2 : Option Nat) (hl : l.length < 4611686018427387904) : Run M 81 [.vs (ints l) l.length c1, .vs (ints m) m.length c2] [] ⟨.bool (decide (l = m)), [], []⟩ := by
  refine run_of_W (by rw [hft]; exact ft81) (by simp) ?_
  unfold b81
  by_cases hlm : l.length = m.length
  · repeat' first | apply W.seq | apply SQn | apply W.region | apply WO.nil | apply W.block | apply W.ret | apply W.exit | apply W.skip | apply SQr | apply SQe | apply BQn | apply BQr | apply BQe | (apply BQo; exact rfl) | apply LQe | apply LQr | (apply W.condT; exact rfl) | (apply W.condF; exact rfl) | (apply W.cond; exact rfl; all_goals intro _) | (apply WO.neq; exact rfl; exact rfl; all_goals first | (intro _; exfalso; omega) | intro _) | (apply WO.sneq; exact rfl; exact rfl; all_goals first | (intro h; exact absurd h (by decide)) | (intro h; exact absurd rfl h) | (intro h; contradiction) | intro _) | (apply WO.pl; exact rfl; exact rfl) | (apply WO.pp; exact rfl; exact rfl)
    refine loop81 l m hlm hl c1 c2 (fun e lo wr => ?_) (fun e i lo wr => ?_) l.length 0 (by omega) rfl _ _
    · repeat' first | apply W.seq | apply SQn | apply W.region | apply WO.nil | apply W.block | apply W.ret | apply W.exit | apply W.skip | apply SQr | apply SQe | apply BQn | apply BQr | apply BQe | (apply BQo; exact rfl) | apply LQe | apply LQr | (apply W.condT; exact rfl) | (apply W.condF; exact rfl) | (apply W.cond; exact rfl; all_goals intro _) | (apply WO.neq; exact rfl; exact rfl; all_goals first | (intro _; exfalso; omega) | intro _) | (apply WO.sneq; exact rfl; exact rfl; all_goals first | (intro h; exact absurd h (by decide)) | (intro h; exact absurd rfl h) | (intro h; contradiction) | intro _) | (apply WO.pl; exact rfl; exact rfl) | (apply WO.pp; exact rfl; exact rfl)
      exact ⟨.inr rfl, rfl, _, rfl, by rw [decide_eq_true e]; rfl, rfl⟩
    · repeat' first | apply W.seq | apply SQn | apply W.region | apply WO.nil | apply W.block | apply W.ret | apply W.exit | apply W.skip | apply SQr | apply SQe | apply BQn | apply BQr | apply BQe | (apply BQo; exact rfl) | apply LQe | apply LQr | (apply W.condT; exact rfl) | (apply W.condF; exact rfl) | (apply W.cond; exact rfl; all_goals intro _) | (apply WO.neq; exact rfl; exact rfl; all_goals first | (intro _; exfalso; omega) | intro _) | (apply WO.sneq; exact rfl; exact rfl; all_goals first | (intro h; exact absurd h (by decide)) | (intro h; exact absurd rfl h) | (intro h; contradiction) | intro _) | (apply WO.pl; exact rfl; exact rfl) | (apply WO.pp; exact rfl; exact rfl)
      exact ⟨.inr rfl, rfl, _, rfl, by rw [decide_eq_false e]; rfl, rfl⟩
  · repeat' first | apply W.seq | apply SQn | apply W.region | apply WO.nil | apply W.block | apply W.ret | apply W.exit | apply W.skip | apply SQr | apply SQe | apply BQn | apply BQr | apply BQe | (apply BQo; exact rfl) | apply LQe | apply LQr | (apply W.condT; exact rfl) | (apply W.condF; exact rfl) | (apply W.cond; exact rfl; all_goals intro _) | (apply WO.neq; exact rfl; exact rfl; all_goals first | (intro _; exfalso; omega) | intro _) | (apply WO.sneq; exact rfl; exact rfl; all_goals first | (intro h; exact absurd h (by decide)) | (intro h; exact absurd rfl h) | (intro h; contradiction) | intro _) | (apply WO.pl; exact rfl; exact rfl) | (apply WO.pp; exact rfl; exact rfl)
    exact ⟨.inr rfl, rfl, _, rfl, by rw [decide_eq_false (fun e => hlm (by rw [e]))]; rfl, rfl⟩

theorem w44 (hft : M.FT = FT) (l m : List Int) (e bad : Int) (c1 c2 : Option Nat) (h81 : ∀ h, M.ext 81 [.vs (ints l) l.length c1, .vs (ints m) m.length c2] h = some ⟨.bool (decide (l = m)), h, []⟩) :
    Run M 44 [.vs (ints l) l.length c1, .int .i64 e, .int .i64 bad, .vs (ints m) m.length c2] [] ⟨.bool (if bad ≠ 0 then decide (l.length = 0 ∧ e = bad) else decide (e = 0 ∧ l = m)), [], []⟩ := by
  by_cases hb : bad = 0
  · subst hb
    refine run_of_W (by rw [hft]; exact ft44) (by simp) ?_
    unfold b44
    by_cases hlm : l = m
    · rw [decide_eq_true hlm] at h81
      repeat' first | apply W.seq | apply SQn | apply W.region | apply WO.nil | apply W.block | apply W.ret | apply W.exit | apply W.skip | apply SQr | apply SQe | apply BQn | apply BQr | apply BQe | (apply BQo; exact rfl) | apply LQe | apply LQr | (apply W.condT; exact rfl) | (apply W.condF; exact rfl) | (apply W.cond; exact rfl; all_goals intro _) | (apply WO.gT; exact rfl) | (apply WO.gF; exact rfl) | (apply WO.sT; exact rfl) | (apply WO.sF; exact rfl) | (apply WO.sU; exact rfl) | (apply WO.eql; exact rfl; exact rfl; all_goals first | (intro _; exfalso; omega) | intro _) | (apply WO.neq; exact rfl; exact rfl; all_goals first | (intro _; exfalso; omega) | intro _) | (apply WO.pkT; exact rfl; exact rfl) | (apply WO.pkF; exact rfl; exact rfl) | (apply WO.cll; exact rfl; exact rfl; first | exact h81 _) | (apply WO.seql; exact rfl; exact rfl; all_goals first | (intro h; exact absurd h (by decide)) | (intro h; exact absurd rfl h) | (intro h; contradiction) | intro _) | (apply WO.sneq; exact rfl; exact rfl; all_goals first | (intro h; exact absurd h (by decide)) | (intro h; exact absurd rfl h) | (intro h; contradiction) | intro _) | (apply WO.clb; exact rfl; exact rfl; exact rfl; all_goals first | (intro h; exact absurd h (by decide)) | intro _) | (apply WO.cll; exact rfl; exact rfl; exact rfl) | (apply WO.pl; exact rfl; exact rfl) | (apply WO.pp; exact rfl; exact rfl)
      all_goals exact ⟨.inr rfl, rfl, _, rfl, by simp [tupA, *], rfl⟩
    · rw [decide_eq_false hlm] at h81
      repeat' first | apply W.seq | apply SQn | apply W.region | apply WO.nil | apply W.block | apply W.ret | apply W.exit | apply W.skip | apply SQr | apply SQe | apply BQn | apply BQr | apply BQe | (apply BQo; exact rfl) | apply LQe | apply LQr | (apply W.condT; exact rfl) | (apply W.condF; exact rfl) | (apply W.cond; exact rfl; all_goals intro _) | (apply WO.gT; exact rfl) | (apply WO.gF; exact rfl) | (apply WO.sT; exact rfl) | (apply WO.sF; exact rfl) | (apply WO.sU; exact rfl) | (apply WO.eql; exact rfl; exact rfl; all_goals first | (intro _; exfalso; omega) | intro _) | (apply WO.neq; exact rfl; exact rfl; all_goals first | (intro _; exfalso; omega) | intro _) | (apply WO.pkT; exact rfl; exact rfl) | (apply WO.pkF; exact rfl; exact rfl) | (apply WO.cll; exact rfl; exact rfl; first | exact h81 _) | (apply WO.seql; exact rfl; exact rfl; all_goals first | (intro h; exact absurd h (by decide)) | (intro h; exact absurd rfl h) | (intro h; contradiction) | intro _) | (apply WO.sneq; exact rfl; exact rfl; all_goals first | (intro h; exact absurd h (by decide)) | (intro h; exact absurd rfl h) | (intro h; contradiction) | intro _) | (apply WO.clb; exact rfl; exact rfl; exact rfl; all_goals first | (intro h; exact absurd h (by decide)) | intro _) | (apply WO.cll; exact rfl; exact rfl; exact rfl) | (apply WO.pl; exact rfl; exact rfl) | (apply WO.pp; exact rfl; exact rfl)
      all_goals exact ⟨.inr rfl, rfl, _, rfl, by simp [tupA, *], rfl⟩
  · have hl0 : ((l.length : Int) = 0) = (l.length = 0) := by apply propext; omega
    rw [if_pos hb]
    refine run_of_W (by rw [hft]; exact ft44) (by simp) ?_
    unfold b44
    repeat' first | apply W.seq | apply SQn | apply W.region | apply WO.nil | apply W.block | apply W.ret | apply W.exit | apply W.skip | apply SQr | apply SQe | apply BQn | apply BQr | apply BQe | (apply BQo; exact rfl) | apply LQe | apply LQr | (apply W.condT; exact rfl) | (apply W.condF; exact rfl) | (apply W.cond; exact rfl; all_goals intro _) | (apply WO.gT; exact rfl) | (apply WO.gF; exact rfl) | (apply WO.sT; exact rfl) | (apply WO.sF; exact rfl) | (apply WO.sU; exact rfl) | (apply WO.eql; exact rfl; exact rfl; all_goals first | (intro _; exfalso; omega) | intro _) | (apply WO.neq; exact rfl; exact rfl; all_goals first | (intro _; exfalso; omega) | intro _) | (apply WO.pkT; exact rfl; exact rfl) | (apply WO.pkF; exact rfl; exact rfl) | (apply WO.seql; exact rfl; exact rfl; all_goals first | (intro h; exact absurd h (by decide)) | (intro h; exact absurd rfl h) | (intro h; contradiction) | intro _) | (apply WO.sneq; exact rfl; exact rfl; all_goals first | (intro h; exact absurd h (by decide)) | (intro h; exact absurd rfl h) | (intro h; contradiction) | intro _) | (apply WO.clb; exact rfl; exact rfl; exact rfl; all_goals first | (intro h; exact absurd h (by decide)) | intro _) | (apply WO.cll; exact rfl; exact rfl; exact rfl) | (apply WO.pl; exact rfl; exact rfl) | (apply WO.pp; exact rfl; exact rfl)
    all_goals refine ⟨.inr rfl, rfl, _, rfl, ?_, rfl⟩
    all_goals simp only [tupA]; congr 1; symm
    all_goals first | (rw [decide_eq_true_eq]; omega) | (rw [decide_eq_false_iff_not]; omega)

/-! checkWeights. -/

/-- What FinishStarts calls. -/
structure Calls7 (M : Mach) : Prop where
  c15 : ∀ h, M.ext 15 [] h = some ⟨.bool true, h, []⟩
  c20 : ∀ t e h, M.ext 20 [.bool t, .int .i64 e] h = some ⟨.int .i64 (if t then e else 0), h, []⟩
  c39 : ∀ l cap s t h, l.length < 1000000 → M.ext 39 [.vs (ints l) l.length cap, .int .i64 s, .int .i64 t] h = some ⟨.tup [.int .i64 (if samplesE l s t ≠ 0 then 0 else if firstAt l t < 0 then 0 else firstAt l t * s), .int .i64 (if samplesE l s t ≠ 0 then samplesE l s t else if firstAt l t < 0 then 7 else 0)], h, []⟩
  c40 : ∀ l cap s t h, l.length < 1000000 → M.ext 40 [.vs (ints l) l.length cap, .int .i64 s, .int .i64 t] h = some ⟨.int .i64 (samplesE l s t), h, []⟩
  c41 : ∀ l cap s t h, l.length < 1000000 → samplesE l s t = 0 → M.ext 41 [.vs (ints l) l.length cap, .int .i64 s, .int .i64 t] h = some ⟨.int .i64 (timeAt l s t), h, []⟩
  c42 : ∀ a e b w h, M.ext 42 [.int .i64 a, .int .i64 e, .int .i64 b, .int .i64 w] h = some ⟨.bool (if b ≠ 0 then decide (a = 0 ∧ e = b) else decide (e = 0 ∧ a = w)), h, []⟩
  c43e : ∀ l cap h, l.length < 100000 → reactE l ≠ 0 → M.ext 43 [.vs (ints l) l.length cap] h = some ⟨.tup [.nilsl, .int .i64 (reactE l)], h, []⟩
  c43n : ∀ l cap h, l.length < 100000 → reactE l = 0 → lanes l 0 = [] → M.ext 43 [.vs (ints l) l.length cap] h = some ⟨.tup [.nilsl, .int .i64 0], h, []⟩
  c43s : ∀ l cap h, l.length < 100000 → reactE l = 0 → lanes l 0 ≠ [] → M.ext 43 [.vs (ints l) l.length cap] h = some ⟨.tup [.sl h.length 0 (lanes l 0).length 1 none, .int .i64 0], h ++ [some (.cells (ints (lanes l 0)) 3)], []⟩
  c45 : ∀ l cap h, l.length < 1000000 → M.ext 45 [.vs (ints l) l.length cap] h = some ⟨.int .i64 (reactE l), h, []⟩
  c46n : ∀ l cap h, l.length < 100000 → lanes l 0 = [] → M.ext 46 [.vs (ints l) l.length cap] h = some ⟨.nilsl, h, []⟩
  c46s : ∀ l cap h, l.length < 100000 → lanes l 0 ≠ [] → M.ext 46 [.vs (ints l) l.length cap] h = some ⟨.sl h.length 0 (lanes l 0).length 1 none, h ++ [some (.cells (ints (lanes l 0)) 3)], []⟩
  c44 : ∀ x y l m (e bad : Int) h, intsAt h x = some l → intsAt h y = some m → l.length < 4611686018427387904 → M.ext 44 [x, .int .i64 e, .int .i64 bad, y] h = some ⟨.bool (if bad ≠ 0 then decide (l.length = 0 ∧ e = bad) else decide (e = 0 ∧ l = m)), h, []⟩

theorem samples_step {l : List Int} {s t : Int} (h : samplesE l s t = 0) : 1 ≤ s ∧ s ≤ 10000 := by
  unfold samplesE at h
  split at h
  · omega
  · split at h
    · omega
    · split at h
      · omega
      · rename_i hs
        simp [outI] at hs
        omega

def t7 : ICode :=
 .seq (.region [⟨(.l 69), .mv (.p 2), none⟩,
           ⟨(.l 70), .call (.c (.fn (.func 43) [] [])) [(.l 69)], none⟩,
           ⟨(.l 68), .mv (.l 70), none⟩,
           ⟨(.l 71), .extract 0 (.l 68), none⟩,
           ⟨(.l 72), .extract 1 (.l 68), none⟩,
           ⟨(.p 9), .mv (.l 71), none⟩,
           ⟨(.p 10), .mv (.l 72), none⟩])
         (.seq (.region [⟨(.l 73), .mv (.p 9), none⟩,
            ⟨(.l 74), .mv (.p 10), none⟩,
            ⟨(.l 75), .mv (.p 2), none⟩,
            ⟨(.l 76), .call (.c (.fn (.func 45) [] [])) [(.l 75)], none⟩,
            ⟨(.l 77), .mv (.p 2), none⟩,
            ⟨(.l 78), .call (.c (.fn (.func 46) [] [])) [(.l 77)], none⟩,
            ⟨(.l 79), .call (.c (.fn (.func 44) [] [])) [(.l 73), (.l 74), (.l 76), (.l 78)], none⟩,
            ⟨(.p 4), .mv (.l 79), none⟩])
          (.ret))

set_option maxHeartbeats 4000000 in
theorem tail7 (C : Calls7 M) (m : List Int) (hm : m.length ≤ 20) (a0 a1 a3 a5 a6 a7 a8 a9 a10 : AV) (lo : List (Nat × AV)) (h : Heap) (wr : List Nat) : W M t7 ⟨⟨[a0, a1, .vs (ints m) m.length none, a3, .bool false, a5, a6, a7, a8, a9, a10], lo, h, []⟩, wr⟩ fun e s => (e = .normal ∨ e = .ret) ∧ s.s.dfs = [] ∧ ∃ vs, resultsA s.s [.var (.p 4)] = some vs ∧ tupA vs = .bool true ∧ (if (AV.bool true).top ≤ 0 then [] else s.s.hp) = [] := by
  have hEnd : ∀ s : StW, s.s.dfs = [] → s.s.pe[4]? = some (.bool true) → ((fun (e : Ex) (s : StW) => (e = .normal ∨ e = .ret) ∧ s.s.dfs = [] ∧ ∃ vs, resultsA s.s [.var (.p 4)] = some vs ∧ tupA vs = .bool true ∧ (if (AV.bool true).top ≤ 0 then [] else s.s.hp) = []) Ex.ret s) := fun s h1 h2 =>
    ⟨.inr rfl, h1, [.bool true], by simp only [resultsA, St.opd, h2], rfl, rfl⟩
  have q45 := fun h => C.c45 m none h (by omega)
  have hll : (lanes m 0).length < 4611686018427387904 := by have := lanes_len m 0; omega
  by_cases hE : reactE m = 0
  · rw [hE] at q45
    by_cases hL : lanes m 0 = []
    · have q43 := fun h => C.c43n m none h (by omega) hE hL
      have q46 := fun h => C.c46n m none h (by omega) hL
      have q44 : ∀ h, M.ext 44 [.nilsl, .int .i64 0, .int .i64 0, .nilsl] h = some ⟨.bool true, h, []⟩ := fun h => by
        rw [C.c44 _ _ [] [] 0 0 h rfl rfl (by simp)]; simp
      unfold t7
      repeat' first | apply W.seq | apply SQn | apply W.region | apply WO.nil | apply W.block | apply W.ret | apply W.exit | apply W.skip | apply SQr | apply SQe | apply BQn | apply BQr | apply BQe | (apply BQo; exact rfl) | apply LQe | apply LQr | (apply W.condT; exact rfl) | (apply W.condF; exact rfl) | (apply W.cond; exact rfl; all_goals intro _) | (apply WO.cll; exact rfl; exact rfl; first | exact q43 _ | exact q45 _ | exact q46 _ | exact q44 _) | (apply WO.clb; exact rfl; exact rfl; exact rfl; all_goals first | (intro h; exact absurd h (by decide)) | intro _) | (apply WO.cll; exact rfl; exact rfl; exact rfl) | (apply WO.pl; exact rfl; exact rfl) | (apply WO.pp; exact rfl; exact rfl)
      exact hEnd _ rfl rfl
    · have q43 := fun h => C.c43s m none h (by omega) hE hL
      have q46 := fun h => C.c46s m none h (by omega) hL
      have q44 : ∀ (h : Heap), M.ext 44 [.sl h.length 0 (lanes m 0).length 1 none, .int .i64 0, .int .i64 0, .sl (h ++ [some (Blk.cells (ints (lanes m 0)) 3)]).length 0 (lanes m 0).length 1 none] ((h ++ [some (.cells (ints (lanes m 0)) 3)]) ++ [some (.cells (ints (lanes m 0)) 3)]) = some ⟨.bool true, (h ++ [some (.cells (ints (lanes m 0)) 3)]) ++ [some (.cells (ints (lanes m 0)) 3)], []⟩ := fun h => by
        rw [C.c44 _ _ (lanes m 0) (lanes m 0) 0 0 _ (ints_at (at_old at_new) rfl) (ints_at at_new rfl) hll]; simp
      unfold t7
      repeat' first | apply W.seq | apply SQn | apply W.region | apply WO.nil | apply W.block | apply W.ret | apply W.exit | apply W.skip | apply SQr | apply SQe | apply BQn | apply BQr | apply BQe | (apply BQo; exact rfl) | apply LQe | apply LQr | (apply W.condT; exact rfl) | (apply W.condF; exact rfl) | (apply W.cond; exact rfl; all_goals intro _) | (apply WO.cll; exact rfl; exact rfl; first | exact q43 _ | exact q45 _ | exact q46 _ | exact q44 _) | (apply WO.clb; exact rfl; exact rfl; exact rfl; all_goals first | (intro h; exact absurd h (by decide)) | intro _) | (apply WO.cll; exact rfl; exact rfl; exact rfl) | (apply WO.pl; exact rfl; exact rfl) | (apply WO.pp; exact rfl; exact rfl)
      exact hEnd _ rfl rfl
  · have q43 := fun h => C.c43e m none h (by omega) hE
    by_cases hL : lanes m 0 = []
    · have q46 := fun h => C.c46n m none h (by omega) hL
      have q44 : ∀ h, M.ext 44 [.nilsl, .int .i64 (reactE m), .int .i64 (reactE m), .nilsl] h = some ⟨.bool true, h, []⟩ := fun h => by
        rw [C.c44 _ _ [] [] _ _ h rfl rfl (by simp), if_pos hE]; simp
      unfold t7
      repeat' first | apply W.seq | apply SQn | apply W.region | apply WO.nil | apply W.block | apply W.ret | apply W.exit | apply W.skip | apply SQr | apply SQe | apply BQn | apply BQr | apply BQe | (apply BQo; exact rfl) | apply LQe | apply LQr | (apply W.condT; exact rfl) | (apply W.condF; exact rfl) | (apply W.cond; exact rfl; all_goals intro _) | (apply WO.cll; exact rfl; exact rfl; first | exact q43 _ | exact q45 _ | exact q46 _ | exact q44 _) | (apply WO.clb; exact rfl; exact rfl; exact rfl; all_goals first | (intro h; exact absurd h (by decide)) | intro _) | (apply WO.cll; exact rfl; exact rfl; exact rfl) | (apply WO.pl; exact rfl; exact rfl) | (apply WO.pp; exact rfl; exact rfl)
      exact hEnd _ rfl rfl
    · have q46 := fun h => C.c46s m none h (by omega) hL
      have q44 : ∀ (h : Heap), M.ext 44 [.nilsl, .int .i64 (reactE m), .int .i64 (reactE m), .sl h.length 0 (lanes m 0).length 1 none] (h ++ [some (.cells (ints (lanes m 0)) 3)]) = some ⟨.bool true, h ++ [some (.cells (ints (lanes m 0)) 3)], []⟩ := fun h => by
        rw [C.c44 _ _ [] (lanes m 0) _ _ _ rfl (ints_at at_new rfl) (by simp), if_pos hE]; simp
      unfold t7
      repeat' first | apply W.seq | apply SQn | apply W.region | apply WO.nil | apply W.block | apply W.ret | apply W.exit | apply W.skip | apply SQr | apply SQe | apply BQn | apply BQr | apply BQe | (apply BQo; exact rfl) | apply LQe | apply LQr | (apply W.condT; exact rfl) | (apply W.condF; exact rfl) | (apply W.cond; exact rfl; all_goals intro _) | (apply WO.cll; exact rfl; exact rfl; first | exact q43 _ | exact q45 _ | exact q46 _ | exact q44 _) | (apply WO.clb; exact rfl; exact rfl; exact rfl; all_goals first | (intro h; exact absurd h (by decide)) | intro _) | (apply WO.cll; exact rfl; exact rfl; exact rfl) | (apply WO.pl; exact rfl; exact rfl) | (apply WO.pp; exact rfl; exact rfl)
      exact hEnd _ rfl rfl

set_option maxHeartbeats 4000000 in
theorem w7 (hft : M.FT = FT) (C : Calls7 M) (l m : List Int) (s t : Int) : Run M 7 [.vs (ints l) l.length none, .agg [.int .i64 s, .int .i64 t], .vs (ints m) m.length none] [] ⟨.bool true, [], []⟩ := by
  have hEnd : ∀ s : StW, s.s.dfs = [] → s.s.pe[4]? = some (.bool true) → ((fun (e : Ex) (s : StW) => (e = .normal ∨ e = .ret) ∧ s.s.dfs = [] ∧ ∃ vs, resultsA s.s [.var (.p 4)] = some vs ∧ tupA vs = .bool true ∧ (if (AV.bool true).top ≤ 0 then [] else s.s.hp) = []) Ex.ret s) := fun s h1 h2 =>
    ⟨.inr rfl, h1, [.bool true], by simp only [resultsA, St.opd, h2], rfl, rfl⟩
  refine run_of_W (by rw [hft]; exact ft7) (by simp) ?_
  unfold b7
  simp only [List.map_cons, List.map_nil, List.getElem?_cons_zero, List.getElem?_cons_succ, List.getElem?_nil, Option.getD_some, Option.getD_none]
  by_cases h0 : (40 < l.length ∧ l.length ≤ 1000) ∨ 1004 < l.length ∨ 20 < m.length
  · repeat' first | apply W.seq | apply SQn | apply W.region | apply WO.nil | apply W.block | apply W.ret | apply W.exit | apply W.skip | apply SQr | apply SQe | apply BQn | apply BQr | apply BQe | (apply BQo; exact rfl) | apply LQe | apply LQr | (apply W.condT; exact rfl) | (apply W.condF; exact rfl) | (apply W.cond; exact rfl; all_goals intro _) | (apply WO.gT; exact rfl) | (apply WO.gF; exact rfl) | (apply WO.sT; exact rfl) | (apply WO.sF; exact rfl) | (apply WO.sU; exact rfl) | (apply WO.lss; exact rfl; exact rfl; all_goals first | (intro _; exfalso; omega) | intro _) | (apply WO.leq; exact rfl; exact rfl; all_goals first | (intro _; exfalso; omega) | intro _) | (apply WO.gtr; exact rfl; exact rfl; all_goals first | (intro _; exfalso; omega) | intro _) | (apply WO.eql; exact rfl; exact rfl; all_goals first | (intro _; exfalso; omega) | intro _) | (apply WO.pkT; exact rfl; exact rfl) | (apply WO.pkF; exact rfl; exact rfl) | (apply WO.cll; exact rfl; exact rfl; first | exact C.c15 _) | (apply WO.iav; exact rfl; exact rfl; omega) | (apply WO.ias; exact rfl; exact rfl; omega) | (apply WO.lda; exact rfl; exact fun _ => rfl; (first | omega | (simp only [List.length_set]; omega) | (simp; omega)); decide; exact rfl; case ia => infer_instance) | (apply WO.lsa; exact rfl; (first | exact rfl | assumption | exact at_new | (apply at_old; assumption) | (apply at_put; first | assumption | (simp only [put_length]; assumption))); exact fun _ => rfl; (first | omega | (simp only [List.length_set]; omega) | (simp; omega)); decide; exact rfl; case ia => infer_instance) | (apply WO.seql; exact rfl; exact rfl; all_goals first | (intro h; exact absurd h (by decide)) | (intro h; exact absurd rfl h) | (intro h; contradiction) | intro _) | (apply WO.clb; exact rfl; exact rfl; exact rfl; all_goals first | (intro h; exact absurd h (by decide)) | intro _) | (apply WO.cll; exact rfl; exact rfl; exact rfl) | (apply WO.hlv; exact rfl; exact rfl; exact rfl) | (apply WO.hpv; exact rfl; exact rfl; exact rfl) | (apply WO.hnv; exact rfl; exact rfl; exact rfl) | (apply WO.pl; exact rfl; exact rfl) | (apply WO.pp; exact rfl; exact rfl)
    all_goals exact hEnd _ rfl rfl
  have q39 := fun h => C.c39 l none s t h (by omega)
  have q40 := fun h => C.c40 l none s t h (by omega)
  have rest := fun a0 a1 a3 a5 a6 a7 a8 a9 a10 lo h wr => tail7 C m (by omega) a0 a1 a3 a5 a6 a7 a8 a9 a10 lo h wr
  by_cases hE : samplesE l s t = 0
  · obtain ⟨hs1, hs2⟩ := samples_step hE
    have q41 := fun h => C.c41 l none s t h (by omega) hE
    rw [hE] at q40
    by_cases hF : firstAt l t < 0
    · have eT : timeAt l s t = -1 := by rw [timeAt, if_pos hF]
      rw [eT] at q41
      have q39' : ∀ h, M.ext 39 [.vs (ints l) l.length none, .int .i64 s, .int .i64 t] h = some ⟨.tup [.int .i64 0, .int .i64 7], h, []⟩ := fun h => by
        rw [q39, if_neg (fun h => h hE), if_pos hF, if_neg (fun h => h hE), if_pos hF]
      have q20 : ∀ h, M.ext 20 [.bool true, .int .i64 7] h = some ⟨.int .i64 7, h, []⟩ := fun h => C.c20 true 7 h
      have q42 : ∀ h, M.ext 42 [.int .i64 0, .int .i64 7, .int .i64 7, .int .i64 (-1)] h = some ⟨.bool true, h, []⟩ := fun h => by rw [C.c42]; rfl
      repeat' first | (exact rest _ _ _ _ _ _ _ _ _ _ _ _) | apply W.seq | apply SQn | apply W.region | apply WO.nil | apply W.block | apply W.ret | apply W.exit | apply W.skip | apply SQr | apply SQe | apply BQn | apply BQr | apply BQe | (apply BQo; exact rfl) | apply LQe | apply LQr | (apply W.condT; exact rfl) | (apply W.condF; exact rfl) | (apply W.cond; exact rfl; all_goals intro _) | (apply WO.gT; exact rfl) | (apply WO.gF; exact rfl) | (apply WO.sT; exact rfl) | (apply WO.sF; exact rfl) | (apply WO.sU; exact rfl) | (apply WO.lss; exact rfl; exact rfl; all_goals first | (intro _; exfalso; omega) | intro _) | (apply WO.leq; exact rfl; exact rfl; all_goals first | (intro _; exfalso; omega) | intro _) | (apply WO.gtr; exact rfl; exact rfl; all_goals first | (intro _; exfalso; omega) | intro _) | (apply WO.eql; exact rfl; exact rfl; all_goals first | (intro _; exfalso; omega) | intro _) | (apply WO.pkT; exact rfl; exact rfl) | (apply WO.pkF; exact rfl; exact rfl) | (apply WO.cll; exact rfl; exact rfl; first | exact C.c15 _ | exact q39' _ | exact q40 _ | exact q41 _ | exact q20 _ | exact q42 _) | (apply WO.iav; exact rfl; exact rfl; omega) | (apply WO.ias; exact rfl; exact rfl; omega) | (apply WO.lda; exact rfl; exact fun _ => rfl; (first | omega | (simp only [List.length_set]; omega) | (simp; omega)); decide; exact rfl; case ia => infer_instance) | (apply WO.lsa; exact rfl; (first | exact rfl | assumption | exact at_new | (apply at_old; assumption) | (apply at_put; first | assumption | (simp only [put_length]; assumption))); exact fun _ => rfl; (first | omega | (simp only [List.length_set]; omega) | (simp; omega)); decide; exact rfl; case ia => infer_instance) | (apply WO.seql; exact rfl; exact rfl; all_goals first | (intro h; exact absurd h (by decide)) | (intro h; exact absurd rfl h) | (intro h; contradiction) | intro _) | (apply WO.clb; exact rfl; exact rfl; exact rfl; all_goals first | (intro h; exact absurd h (by decide)) | intro _) | (apply WO.cll; exact rfl; exact rfl; exact rfl) | (apply WO.hlv; exact rfl; exact rfl; exact rfl) | (apply WO.hpv; exact rfl; exact rfl; exact rfl) | (apply WO.hnv; exact rfl; exact rfl; exact rfl) | (apply WO.pl; exact rfl; exact rfl) | (apply WO.pp; exact rfl; exact rfl)
    · have eT : timeAt l s t = firstAt l t * s := by rw [timeAt, if_neg hF]
      rw [eT] at q41
      have k2 : 0 ≤ firstAt l t * s := Int.mul_nonneg (by omega) (by omega)
      have q39' : ∀ h, M.ext 39 [.vs (ints l) l.length none, .int .i64 s, .int .i64 t] h = some ⟨.tup [.int .i64 (firstAt l t * s), .int .i64 0], h, []⟩ := fun h => by
        rw [q39, if_neg (fun h => h hE), if_neg hF, if_neg (fun h => h hE), if_neg hF]
      generalize firstAt l t * s = z at *
      have q20 : ∀ h, M.ext 20 [.bool false, .int .i64 7] h = some ⟨.int .i64 0, h, []⟩ := fun h => C.c20 false 7 h
      have q42 : ∀ h, M.ext 42 [.int .i64 z, .int .i64 0, .int .i64 0, .int .i64 z] h = some ⟨.bool true, h, []⟩ := fun h => by rw [C.c42]; simp
      repeat' first | (exact rest _ _ _ _ _ _ _ _ _ _ _ _) | apply W.seq | apply SQn | apply W.region | apply WO.nil | apply W.block | apply W.ret | apply W.exit | apply W.skip | apply SQr | apply SQe | apply BQn | apply BQr | apply BQe | (apply BQo; exact rfl) | apply LQe | apply LQr | (apply W.condT; exact rfl) | (apply W.condF; exact rfl) | (apply W.cond; exact rfl; all_goals intro _) | (apply WO.gT; exact rfl) | (apply WO.gF; exact rfl) | (apply WO.sT; exact rfl) | (apply WO.sF; exact rfl) | (apply WO.sU; exact rfl) | (apply WO.lss; exact rfl; exact rfl; all_goals first | (intro _; exfalso; omega) | intro _) | (apply WO.leq; exact rfl; exact rfl; all_goals first | (intro _; exfalso; omega) | intro _) | (apply WO.gtr; exact rfl; exact rfl; all_goals first | (intro _; exfalso; omega) | intro _) | (apply WO.eql; exact rfl; exact rfl; all_goals first | (intro _; exfalso; omega) | intro _) | (apply WO.pkT; exact rfl; exact rfl) | (apply WO.pkF; exact rfl; exact rfl) | (apply WO.cll; exact rfl; exact rfl; first | exact C.c15 _ | exact q39' _ | exact q40 _ | exact q41 _ | exact q20 _ | exact q42 _) | (apply WO.iav; exact rfl; exact rfl; omega) | (apply WO.ias; exact rfl; exact rfl; omega) | (apply WO.lda; exact rfl; exact fun _ => rfl; (first | omega | (simp only [List.length_set]; omega) | (simp; omega)); decide; exact rfl; case ia => infer_instance) | (apply WO.lsa; exact rfl; (first | exact rfl | assumption | exact at_new | (apply at_old; assumption) | (apply at_put; first | assumption | (simp only [put_length]; assumption))); exact fun _ => rfl; (first | omega | (simp only [List.length_set]; omega) | (simp; omega)); decide; exact rfl; case ia => infer_instance) | (apply WO.seql; exact rfl; exact rfl; all_goals first | (intro h; exact absurd h (by decide)) | (intro h; exact absurd rfl h) | (intro h; contradiction) | intro _) | (apply WO.clb; exact rfl; exact rfl; exact rfl; all_goals first | (intro h; exact absurd h (by decide)) | intro _) | (apply WO.cll; exact rfl; exact rfl; exact rfl) | (apply WO.hlv; exact rfl; exact rfl; exact rfl) | (apply WO.hpv; exact rfl; exact rfl; exact rfl) | (apply WO.hnv; exact rfl; exact rfl; exact rfl) | (apply WO.pl; exact rfl; exact rfl) | (apply WO.pp; exact rfl; exact rfl)
  · have q39' : ∀ h, M.ext 39 [.vs (ints l) l.length none, .int .i64 s, .int .i64 t] h = some ⟨.tup [.int .i64 0, .int .i64 (samplesE l s t)], h, []⟩ := fun h => by
      rw [q39, if_pos hE, if_pos hE]
    have q42 : ∀ h, M.ext 42 [.int .i64 0, .int .i64 (samplesE l s t), .int .i64 (samplesE l s t), .int .i64 0] h = some ⟨.bool true, h, []⟩ := fun h => by rw [C.c42, if_pos hE]; simp
    generalize samplesE l s t = E at *
    repeat' first | (exact rest _ _ _ _ _ _ _ _ _ _ _ _) | apply W.seq | apply SQn | apply W.region | apply WO.nil | apply W.block | apply W.ret | apply W.exit | apply W.skip | apply SQr | apply SQe | apply BQn | apply BQr | apply BQe | (apply BQo; exact rfl) | apply LQe | apply LQr | (apply W.condT; exact rfl) | (apply W.condF; exact rfl) | (apply W.cond; exact rfl; all_goals intro _) | (apply WO.gT; exact rfl) | (apply WO.gF; exact rfl) | (apply WO.sT; exact rfl) | (apply WO.sF; exact rfl) | (apply WO.sU; exact rfl) | (apply WO.lss; exact rfl; exact rfl; all_goals first | (intro _; exfalso; omega) | intro _) | (apply WO.leq; exact rfl; exact rfl; all_goals first | (intro _; exfalso; omega) | intro _) | (apply WO.gtr; exact rfl; exact rfl; all_goals first | (intro _; exfalso; omega) | intro _) | (apply WO.eql; exact rfl; exact rfl; all_goals first | (intro _; exfalso; omega) | intro _) | (apply WO.pkT; exact rfl; exact rfl) | (apply WO.pkF; exact rfl; exact rfl) | (apply WO.cll; exact rfl; exact rfl; first | exact C.c15 _ | exact q39' _ | exact q40 _ | exact q42 _) | (apply WO.iav; exact rfl; exact rfl; omega) | (apply WO.ias; exact rfl; exact rfl; omega) | (apply WO.lda; exact rfl; exact fun _ => rfl; (first | omega | (simp only [List.length_set]; omega) | (simp; omega)); decide; exact rfl; case ia => infer_instance) | (apply WO.lsa; exact rfl; (first | exact rfl | assumption | exact at_new | (apply at_old; assumption) | (apply at_put; first | assumption | (simp only [put_length]; assumption))); exact fun _ => rfl; (first | omega | (simp only [List.length_set]; omega) | (simp; omega)); decide; exact rfl; case ia => infer_instance) | (apply WO.seql; exact rfl; exact rfl; all_goals first | (intro h; exact absurd h (by decide)) | (intro h; exact absurd rfl h) | (intro h; contradiction) | intro _) | (apply WO.clb; exact rfl; exact rfl; exact rfl; all_goals first | (intro h; exact absurd h (by decide)) | intro _) | (apply WO.cll; exact rfl; exact rfl; exact rfl) | (apply WO.hlv; exact rfl; exact rfl; exact rfl) | (apply WO.hpv; exact rfl; exact rfl; exact rfl) | (apply WO.hnv; exact rfl; exact rfl; exact rfl) | (apply WO.pl; exact rfl; exact rfl) | (apply WO.pp; exact rfl; exact rfl)
end Go.Ab.Ch5


/-
  Own work: the contracts of FinishStarts as a table.
-/
namespace Go.Ab.Ch5
open Go.Proofs

theorem ints_top (l : List Int) : topL (ints l) = 0 := topL_arr (fun _ => rfl) l
theorem novL_ints (l : List Int) : novL (ints l) = true := novL_arr (fun _ => rfl) l

def specAwake : Spec := spec0 [] (.bool true)
theorem awake15 : SpecOK Tryz.prog gl 15 specAwake := spec0_ok gl_top rfl rfl o40
def specOut : Spec := fun
  | [.int .i64 x, .int .i64 lo, .int .i64 hi], h => some ⟨.bool (outI x lo hi), h, []⟩
  | _, _ => none
theorem out87 : SpecOK Tryz.prog gl 87 specOut := by
  intro xs h r hq
  unfold specOut at hq
  split at hq
  · cases hq
    exact ent_run0 seat tab_nil (w87 (M := mach Tryz.prog FT []) mach_ft _ _ _) (FrL.same rfl) rfl (.inl rfl)
  · cases hq
def specWhen : Spec := fun
  | [.bool t, .int .i64 e], h => some ⟨.int .i64 (if t then e else 0), h, []⟩
  | _, _ => none
theorem when91 : SpecOK Tryz.prog gl 91 specWhen := by
  intro xs h r hq
  unfold specWhen at hq
  split at hq
  · cases hq
    exact ent_run0 seat tab_nil (w91 (M := mach Tryz.prog FT []) mach_ft _ _) (FrL.same rfl) rfl (.inl rfl)
  · cases hq
theorem when20 : SpecOK Tryz.prog gl 20 specWhen := by
  intro xs h r hq
  unfold specWhen at hq
  split at hq
  · cases hq
    exact ent_run0 seat tab_nil (w20 (M := mach Tryz.prog FT []) mach_ft _ _) (FrL.same rfl) rfl (.inl rfl)
  · cases hq
def specRange : Spec := fun
  | [.int .i64 x, .int .i64 lo, .int .i64 hi], h => some ⟨.int .i64 (if outI x lo hi then 3 else 0), h, []⟩
  | _, _ => none
theorem range121 : SpecOK Tryz.prog gl 121 specRange := by
  intro xs h r hq
  unfold specRange at hq
  split at hq
  · cases hq
    exact ent_run0 seat (T := [(91, specWhen)]) (tab_cons when91 tab_nil) (w121 mach_ft (fun _ _ _ => by rw [mach_ext]; rfl) _ _ _) (FrL.same rfl) rfl (.inl rfl)
  · cases hq
def specFirst : Spec := fun
  | [v], h => match intsAt h v with
    | some l => if l.length < 4611686018427387904 then some ⟨.int .i64 (firstNZ l), h, []⟩ else none
    | none => none
  | _, _ => none
theorem first90 : SpecOK Tryz.prog gl 90 specFirst := by
  intro xs h r hq
  unfold specFirst at hq
  split at hq
  · split at hq
    · rename_i l hl
      split at hq
      · rename_i hn
        cases hq
        obtain ⟨S, cap, hf⟩ := (intsAt_sl hl).fr (fun _ => rfl)
        exact ent_run0 seat tab_nil (w90 (M := mach Tryz.prog FT []) mach_ft l hn) (.cons hf .nil) rfl (.inr rfl)
      · cases hq
    · cases hq
  · cases hq

def TC39 : List (Nat × Spec) := [(91, specWhen), (121, specRange), (90, specFirst)]
theorem TC39_ok : ExtOK Tryz.prog gl (extS TC39) := tab_cons when91 (tab_cons range121 (tab_cons first90 tab_nil))
theorem c39 : C39 (mach Tryz.prog FT TC39) where
  ft := mach_ft
  n119 _ _ := rfl
  n120 _ _ := rfl
  n122 _ _ := rfl
  n123 _ _ := rfl
  n124 _ _ := rfl
  c91 _ _ _ := by rw [mach_ext]; rfl
  c121 _ _ _ _ := by rw [mach_ext]; rfl
  c90 v l h hl hn := by
    rw [mach_ext]
    show specFirst [v] h = _
    simp only [specFirst, hl, if_pos hn]

def specReaction : Spec := fun
  | [v, .int .i64 s, .int .i64 t], h => match intsAt h v with
    | some l => if l.length < 1000000 then some ⟨.tup [.int .i64 (if samplesE l s t ≠ 0 then 0 else if firstAt l t < 0 then 0 else firstAt l t * s), .int .i64 (if samplesE l s t ≠ 0 then samplesE l s t else if firstAt l t < 0 then 7 else 0)], h, []⟩ else none
    | none => none
  | _, _ => none
theorem reaction39 : SpecOK Tryz.prog gl 39 specReaction := by
  intro xs h r hq
  unfold specReaction at hq
  split at hq
  · split at hq
    · rename_i l hl
      split at hq
      · rename_i hn
        cases hq
        obtain ⟨S, cap, hf⟩ := (intsAt_sl hl).fr (fun _ => rfl)
        exact ent_run0 seat TC39_ok (w39 c39 l _ _ hn) (.cons hf (.cons (.same rfl) (.cons (.same rfl) .nil))) rfl (.inr rfl)
      · cases hq
    · cases hq
  · cases hq
def TO87 : List (Nat × Spec) := [(87, specOut)]
theorem TO87_ok : ExtOK Tryz.prog gl (extS TO87) := tab_cons out87 tab_nil
def specSamples : Spec := fun
  | [v, .int .i64 s, .int .i64 t], h => match intsAt h v with
    | some l => if l.length < 1000000 then some ⟨.int .i64 (samplesE l s t), h, []⟩ else none
    | none => none
  | _, _ => none
theorem samples40 : SpecOK Tryz.prog gl 40 specSamples := by
  intro xs h r hq
  unfold specSamples at hq
  split at hq
  · split at hq
    · rename_i l hl
      split at hq
      · rename_i hn
        cases hq
        obtain ⟨S, cap, hf⟩ := (intsAt_sl hl).fr (fun _ => rfl)
        exact ent_run0 seat TO87_ok (w40 mach_ft (fun _ _ _ _ => by rw [mach_ext]; rfl) l _ _ hn) (.cons hf (.cons (.same rfl) (.cons (.same rfl) .nil))) rfl (.inr rfl)
      · cases hq
    · cases hq
  · cases hq
def specTime : Spec := fun
  | [v, .int .i64 s, .int .i64 t], h => match intsAt h v with
    | some l => if l.length < 1000000 ∧ samplesE l s t = 0 then some ⟨.int .i64 (timeAt l s t), h, []⟩ else none
    | none => none
  | _, _ => none
theorem time41 : SpecOK Tryz.prog gl 41 specTime := by
  intro xs h r hq
  unfold specTime at hq
  split at hq
  · split at hq
    · rename_i l hl
      split at hq
      · rename_i hn
        cases hq
        obtain ⟨S, cap, hf⟩ := (intsAt_sl hl).fr (fun _ => rfl)
        exact ent_run0 seat tab_nil (w41 (M := mach Tryz.prog FT []) mach_ft l _ _ (samples_step hn.2) hn.1) (.cons hf (.cons (.same rfl) (.cons (.same rfl) .nil))) rfl (.inr rfl)
      · cases hq
    · cases hq
  · cases hq
def specInteger : Spec := fun
  | [.int .i64 a, .int .i64 e, .int .i64 b, .int .i64 w], h => some ⟨.bool (if b ≠ 0 then decide (a = 0 ∧ e = b) else decide (e = 0 ∧ a = w)), h, []⟩
  | _, _ => none
theorem integer42 : SpecOK Tryz.prog gl 42 specInteger := by
  intro xs h r hq
  unfold specInteger at hq
  split at hq
  · cases hq
    exact ent_run0 seat tab_nil (w42 (M := mach Tryz.prog FT []) mach_ft _ _ _ _) (FrL.same rfl) rfl (.inl rfl)
  · cases hq
def specReactE : Spec := fun
  | [v], h => match intsAt h v with
    | some l => if l.length < 1000000 then some ⟨.int .i64 (reactE l), h, []⟩ else none
    | none => none
  | _, _ => none
theorem reactions45 : SpecOK Tryz.prog gl 45 specReactE := by
  intro xs h r hq
  unfold specReactE at hq
  split at hq
  · split at hq
    · rename_i l hl
      split at hq
      · rename_i hn
        cases hq
        obtain ⟨S, cap, hf⟩ := (intsAt_sl hl).fr (fun _ => rfl)
        exact ent_run0 seat TO87_ok (w45 mach_ft (fun _ _ _ _ => by rw [mach_ext]; rfl) l hn) (.cons hf .nil) rfl (.inr rfl)
      · cases hq
    · cases hq
  · cases hq
def specFalse : Spec := fun
  | [v], h => match intsAt h v with
    | some l => if l.length < 100000 then
        if reactE l ≠ 0 then some ⟨.tup [.nilsl, .int .i64 (reactE l)], h, []⟩
        else some (if lanes l 0 = [] then ⟨.tup [.nilsl, .int .i64 0], h, []⟩ else ⟨.tup [.sl h.length 0 (lanes l 0).length 1 none, .int .i64 0], h ++ [some (.cells (ints (lanes l 0)) 3)], []⟩)
      else none
    | none => none
  | _, _ => none
theorem false43 : SpecOK Tryz.prog gl 43 specFalse := by
  intro xs h r hq
  unfold specFalse at hq
  split at hq
  · split at hq
    · rename_i l hl
      split at hq
      · rename_i hn
        obtain ⟨S, cap, hf⟩ := (intsAt_sl hl).fr (fun _ => rfl)
        split at hq
        · rename_i hE
          cases hq
          exact ent_run0 seat TC39_ok (w43e c39 l hn hE) (.cons hf .nil) rfl (.inr rfl)
        · rename_i hE
          obtain ⟨v, hh, ho, hr⟩ := w43 (cap := cap) c39 l hn (Decidable.not_not.1 hE)
          rcases ho with ⟨h1, rfl⟩ | ⟨c, h0, rfl, h2⟩
          · rw [if_pos h1] at hq
            cases hq
            exact ent_run0 seat TC39_ok hr (.cons hf .nil) rfl (.inr rfl)
          · rw [if_neg h0] at hq
            cases hq
            refine ent_run1 seat TC39_ok hr (.cons hf .nil) (k := c) (.tup rfl fun i x y hx hy => ?_) h2 (ints_top _) (.inr (novL_ints _)) (.inr rfl)
            match i, hx, hy with
            | 0, hx, hy => cases hx; cases hy; exact .sl (i := 0) rfl
            | 1, hx, hy => cases hx; cases hy; exact .same rfl
      · cases hq
    · cases hq
  · cases hq
def specLanes : Spec := fun
  | [v], h => match intsAt h v with
    | some l => if l.length < 100000 then
        some (if lanes l 0 = [] then ⟨.nilsl, h, []⟩ else ⟨.sl h.length 0 (lanes l 0).length 1 none, h ++ [some (.cells (ints (lanes l 0)) 3)], []⟩)
      else none
    | none => none
  | _, _ => none
theorem lanes46 : SpecOK Tryz.prog gl 46 specLanes := by
  intro xs h r hq
  unfold specLanes at hq
  split at hq
  · split at hq
    · rename_i l hl
      split at hq
      · rename_i hn
        obtain ⟨S, cap, hf⟩ := (intsAt_sl hl).fr (fun _ => rfl)
        obtain ⟨v, hh, ho, hr⟩ := w46 (M := mach Tryz.prog FT []) (cap := cap) mach_ft l hn
        rcases ho with ⟨h1, rfl⟩ | ⟨c, h0, rfl, h2⟩
        · rw [if_pos h1] at hq
          cases hq
          exact ent_run0 seat tab_nil hr (.cons hf .nil) rfl (.inr rfl)
        · rw [if_neg h0] at hq
          cases hq
          exact ent_run1 seat tab_nil hr (.cons hf .nil) (k := c) (.sl (i := 0) rfl) h2 (ints_top _) (.inr (novL_ints _)) (.inr rfl)
      · cases hq
    · cases hq
  · cases hq

theorem two_fr {h : Heap} {x y : AV} {l m : List Int} (hx : intsAt h x = some l) (hy : intsAt h y = some m) : ∃ S c1 c2, Fr h S x (.vs (ints l) l.length c1) ∧ Fr h S y (.vs (ints m) m.length c2) :=
  let ⟨S1, c1, f1⟩ := (intsAt_sl hx).fr (fun _ => rfl)
  let ⟨S2, c2, f2⟩ := (intsAt_sl hy).fr (fun _ => rfl)
  ⟨S1 ++ S2, c1, c2, f1.mono (fun b hb => List.mem_append_left _ hb), f2.mono (fun b hb => List.mem_append_right _ hb)⟩
def specSame : Spec := fun
  | [x, y], h => match intsAt h x, intsAt h y with
    | some l, some m => if l.length < 4611686018427387904 then some ⟨.bool (decide (l = m)), h, []⟩ else none
    | _, _ => none
  | _, _ => none
theorem same81 : SpecOK Tryz.prog gl 81 specSame := by
  intro xs h r hq
  unfold specSame at hq
  split at hq
  · split at hq
    · rename_i l m hl hm
      split at hq
      · rename_i hlen
        cases hq
        obtain ⟨S, c1, c2, f1, f2⟩ := two_fr hl hm
        exact ent_run0 seat tab_nil (w81 (M := mach Tryz.prog FT []) mach_ft l m c1 c2 hlen) (.cons f1 (.cons f2 .nil)) rfl (.inr rfl)
      · cases hq
    · cases hq
  · cases hq
def specList : Spec := fun
  | [x, .int .i64 e, .int .i64 bad, y], h => match intsAt h x, intsAt h y with
    | some l, some m => if l.length < 4611686018427387904 then some ⟨.bool (if bad ≠ 0 then decide (l.length = 0 ∧ e = bad) else decide (e = 0 ∧ l = m)), h, []⟩ else none
    | _, _ => none
  | _, _ => none
def TS81 : List (Nat × Spec) := [(81, specSame)]
theorem list44 : SpecOK Tryz.prog gl 44 specList := by
  intro xs h r hq
  unfold specList at hq
  split at hq
  · split at hq
    · rename_i l m hl hm
      split at hq
      · rename_i hlen
        cases hq
        obtain ⟨S, c1, c2, f1, f2⟩ := two_fr hl hm
        refine ent_run0 seat (T := TS81) (tab_cons same81 tab_nil) (w44 mach_ft l m _ _ c1 c2 fun hp => ?_) (.cons f1 (.cons (.same rfl) (.cons (.same rfl) (.cons f2 .nil)))) rfl (.inr rfl)
        rw [mach_ext]
        show specSame [.vs (ints l) l.length c1, .vs (ints m) m.length c2] hp = _
        simp only [specSame, intsAt_vs, if_pos hlen]
      · cases hq
    · cases hq
  · cases hq

def TStarts : List (Nat × Spec) := [(15, specAwake), (20, specWhen), (39, specReaction), (40, specSamples), (41, specTime), (42, specInteger), (43, specFalse), (44, specList), (45, specReactE), (46, specLanes)]
theorem TStarts_ok : ExtOK Tryz.prog gl (extS TStarts) := tab_cons awake15 (tab_cons when20 (tab_cons reaction39 (tab_cons samples40 (tab_cons time41 (tab_cons integer42 (tab_cons false43 (tab_cons list44 (tab_cons reactions45 (tab_cons lanes46 tab_nil)))))))))
theorem calls7 : Calls7 (mach Tryz.prog FT TStarts) where
  c15 _ := by rw [mach_ext]; rfl
  c20 _ _ _ := by rw [mach_ext]; rfl
  c39 l cap s t h hn := by
    rw [mach_ext]
    show specReaction [.vs (ints l) l.length cap, .int .i64 s, .int .i64 t] h = _
    simp only [specReaction, intsAt_vs, if_pos hn]
  c40 l cap s t h hn := by
    rw [mach_ext]
    show specSamples [.vs (ints l) l.length cap, .int .i64 s, .int .i64 t] h = _
    simp only [specSamples, intsAt_vs, if_pos hn]
  c41 l cap s t h hn hE := by
    rw [mach_ext]
    show specTime [.vs (ints l) l.length cap, .int .i64 s, .int .i64 t] h = _
    simp only [specTime, intsAt_vs]
    rw [if_pos ⟨hn, hE⟩]
  c42 _ _ _ _ _ := by rw [mach_ext]; rfl
  c43e l cap h hn hE := by
    rw [mach_ext]
    show specFalse [.vs (ints l) l.length cap] h = _
    simp only [specFalse, intsAt_vs, if_pos hn, if_pos hE]
  c43n l cap h hn hE h0 := by
    rw [mach_ext]
    show specFalse [.vs (ints l) l.length cap] h = _
    simp only [specFalse, intsAt_vs, if_pos hn]
    rw [if_neg (fun h => h hE), if_pos h0]
  c43s l cap h hn hE h0 := by
    rw [mach_ext]
    show specFalse [.vs (ints l) l.length cap] h = _
    simp only [specFalse, intsAt_vs, if_pos hn]
    rw [if_neg (fun h => h hE), if_neg h0]
  c45 l cap h hn := by
    rw [mach_ext]
    show specReactE [.vs (ints l) l.length cap] h = _
    simp only [specReactE, intsAt_vs, if_pos hn]
  c46n l cap h hn h0 := by
    rw [mach_ext]
    show specLanes [.vs (ints l) l.length cap] h = _
    simp only [specLanes, intsAt_vs, if_pos hn, if_pos h0]
  c46s l cap h hn h0 := by
    rw [mach_ext]
    show specLanes [.vs (ints l) l.length cap] h = _
    simp only [specLanes, intsAt_vs, if_pos hn, if_neg h0]
  c44 x y l m e bad h hx hy hl := by
    rw [mach_ext]
    show specList [x, .int .i64 e, .int .i64 bad, y] h = _
    simp only [specList, hx, hy, if_pos hl]
end Go.Ab.Ch5

