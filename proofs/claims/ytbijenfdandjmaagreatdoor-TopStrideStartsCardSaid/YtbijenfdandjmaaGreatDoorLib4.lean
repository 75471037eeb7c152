/-
  Own work: the resolved code of some functions of the top: starts.
-/
import Derived.Test.YtbijenfdandjmaaGreatDoorLib3
import Derived.Test.YtbijenfdandjmaaGreatDoorLib2
namespace Go.Ab.T5

def b3_0 : ICode :=
 .seq (.region [⟨(.l 87), .bin .lss (.p 19) (.p 18), none⟩])
  (.seq (.cond (.l 87)
    (.skip)
    (.exit 0))
   (.seq (.block 1
     (.seq (.region [⟨(.l 88), .mv (.p 19), none⟩,
        ⟨(.l 89), .iaddr none 1 (.p 17) (.p 19), none⟩,
        ⟨(.l 90), .load 1 false (.l 89), none⟩,
        ⟨(.p 13), .mv (.l 88), none⟩,
        ⟨(.p 14), .mv (.l 90), none⟩])
      (.seq (.region [⟨(.l 92), .mv (.p 14), none⟩,
         ⟨(.l 93), .bin .add (.l 92) (.c (.int .i64 (1))), none⟩,
         ⟨(.l 94), .build [.str [], .int .i64 (0), .str []] [(0, 1, (.c (.str [116, 105, 109, 101]))), (1, 1, (.l 93))], none⟩,
         ⟨(.l 95), .build [.str [], .int .i64 (0), .str []] [(0, 1, (.c (.str [116, 105, 109, 101]))), (1, 1, (.c (.int .i64 (1001))))], none⟩,
         ⟨(.l 96), .call (.c (.fn (.func 8) [] [])) [(.l 94), (.l 95)], none⟩,
         ⟨(.l 91), .mv (.l 96), none⟩,
         ⟨(.l 97), .extract 0 (.l 91), none⟩,
         ⟨(.l 98), .extract 1 (.l 91), none⟩,
         ⟨(.p 15), .mv (.l 97), none⟩,
         ⟨(.p 16), .mv (.l 98), none⟩])
       (.seq (.seq (.region [⟨(.l 99), .mv (.p 16), none⟩,
           ⟨(.l 100), .bin .neq (.l 99) (.c (.int .i64 (0))), none⟩])
         (.cond (.l 100)
          (.seq (.region [⟨(.p 3), .mv (.c (.bool false)), none⟩])
           (.ret))
          (.skip)))
        (.seq (.region [⟨(.l 101), .mv (.p 15), none⟩,
           ⟨(.l 102), .bin .lss (.l 101) (.c (.int .i64 (0))), none⟩])
         (.cond (.l 102)
          (.region [⟨(.l 103), .mv (.p 12), none⟩,
            ⟨(.l 104), .mv (.p 13), none⟩,
            ⟨(.l 105), .bin .add (.l 104) (.c (.int .i64 (1))), none⟩,
            ⟨(.l 106), .bslice 3 1 1 [.int .i64 (0)] [(0, 1, (.l 105))], none⟩,
            ⟨(.l 107), .append 3 1 8 (.l 103) (.l 106), none⟩,
            ⟨(.p 12), .mv (.l 107), none⟩])
          (.skip)))))))
    (.region [⟨(.l 108), .bin .add (.p 19) (.c (.int .i64 (1))), none⟩,
      ⟨(.p 19), .mv (.l 108), none⟩])))
/-- stadion/stadiontop.TopStrideStarts -/
def b3 : ICode :=
 .seq (.region [⟨(.p 3), .mv (.c (.bool false)), none⟩])
  (.seq (.region [⟨(.l 20), .mv (.p 1), none⟩,
     ⟨(.l 21), .convInt .i64 (.l 20), none⟩,
     ⟨(.l 22), .bin .add (.c (.int .i64 (1))) (.l 21), none⟩,
     ⟨(.l 23), .mv (.p 2), none⟩,
     ⟨(.l 24), .convInt .i64 (.l 23), none⟩,
     ⟨(.l 25), .bin .rem (.l 24) (.c (.int .i64 (20))), none⟩,
     ⟨(.p 4), .mv (.l 22), none⟩,
     ⟨(.p 5), .mv (.l 25), none⟩])
   (.seq (.seq (.region [⟨(.l 26), .mv (.p 0), none⟩,
       ⟨(.l 27), .len .sl (.l 26), none⟩,
       ⟨(.l 28), .bin .gtr (.l 27) (.c (.int .i64 (30))), none⟩,
       ⟨(.l 29), .mv (.l 28), none⟩,
       ⟨(.l 30), .mv (.p 0), some ((.l 29), false)⟩,
       ⟨(.l 31), .mv (.p 4), some ((.l 29), false)⟩,
       ⟨(.l 32), .call (.c (.fn (.func 4) [] [])) [(.l 30), (.l 31), (.c (.int .i64 (20)))], some ((.l 29), false)⟩,
       ⟨(.l 33), .bin .neq (.l 32) (.c (.int .i64 (0))), some ((.l 29), false)⟩,
       ⟨(.l 34), .pick (.l 29) (.c (.bool true)) (.l 33), none⟩])
     (.cond (.l 34)
      (.seq (.region [⟨(.l 35), .call (.c (.fn (.func 5) [] [])) [], none⟩,
         ⟨(.p 3), .mv (.l 35), none⟩])
       (.ret))
      (.skip)))
    (.seq (.region [⟨(.l 37), .mv (.p 0), none⟩,
       ⟨(.l 38), .mv (.p 4), none⟩,
       ⟨(.l 39), .call (.c (.fn (.func 6) [] [])) [(.l 37), (.l 38), (.c (.int .i64 (20)))], none⟩,
       ⟨(.l 36), .mv (.l 39), none⟩,
       ⟨(.l 40), .extract 0 (.l 36), none⟩,
       ⟨(.l 41), .extract 1 (.l 36), none⟩,
       ⟨(.p 6), .mv (.l 40), none⟩,
       ⟨(.p 7), .mv (.l 41), none⟩])
     (.seq (.region [⟨(.l 43), .mv (.p 5), none⟩,
        ⟨(.l 44), .mkslice 3 1 8 [.int .i64 (0)] (.l 43) (.l 43), none⟩,
        ⟨(.l 45), .mv (.p 0), none⟩,
        ⟨(.l 46), .append 3 1 8 (.l 44) (.l 45), none⟩,
        ⟨(.l 47), .mv (.p 4), none⟩,
        ⟨(.l 48), .call (.c (.fn (.func 6) [] [])) [(.l 46), (.l 47), (.c (.int .i64 (20)))], none⟩,
        ⟨(.l 42), .mv (.l 48), none⟩,
        ⟨(.l 49), .extract 0 (.l 42), none⟩,
        ⟨(.l 50), .extract 1 (.l 42), none⟩,
        ⟨(.p 8), .mv (.l 49), none⟩,
        ⟨(.p 9), .mv (.l 50), none⟩])
      (.seq (.seq (.region [⟨(.l 51), .mv (.p 7), none⟩,
          ⟨(.l 52), .bin .neq (.l 51) (.c (.int .i64 (0))), none⟩])
        (.cond (.l 52)
         (.seq (.region [⟨(.l 53), .mv (.p 7), none⟩,
            ⟨(.l 54), .bin .eql (.l 53) (.c (.int .i64 (7))), none⟩,
            ⟨(.l 55), .mv (.l 54), none⟩,
            ⟨(.l 56), .mv (.p 9), some ((.l 55), true)⟩,
            ⟨(.l 57), .bin .eql (.l 56) (.c (.int .i64 (7))), some ((.l 55), true)⟩,
            ⟨(.l 58), .pick (.l 55) (.l 57) (.c (.bool false)), none⟩,
            ⟨(.l 59), .mv (.l 58), none⟩,
            ⟨(.l 60), .call (.c (.fn (.func 5) [] [])) [], some ((.l 59), true)⟩,
            ⟨(.l 61), .pick (.l 59) (.l 60) (.c (.bool false)), none⟩,
            ⟨(.p 3), .mv (.l 61), none⟩])
          (.ret))
         (.skip)))
       (.seq (.seq (.region [⟨(.l 62), .mv (.p 9), none⟩,
           ⟨(.l 63), .bin .neq (.l 62) (.c (.int .i64 (0))), none⟩,
           ⟨(.l 64), .mv (.l 63), none⟩,
           ⟨(.l 65), .mv (.p 8), some ((.l 64), false)⟩,
           ⟨(.l 66), .mv (.p 6), some ((.l 64), false)⟩,
           ⟨(.l 67), .mv (.p 5), some ((.l 64), false)⟩,
           ⟨(.l 68), .mv (.p 4), some ((.l 64), false)⟩,
           ⟨(.l 69), .bin .mul (.l 67) (.l 68), some ((.l 64), false)⟩,
           ⟨(.l 70), .bin .add (.l 66) (.l 69), some ((.l 64), false)⟩,
           ⟨(.l 71), .bin .neq (.l 65) (.l 70), some ((.l 64), false)⟩,
           ⟨(.l 72), .pick (.l 64) (.c (.bool true)) (.l 71), none⟩])
         (.cond (.l 72)
          (.seq (.region [⟨(.p 3), .mv (.c (.bool false)), none⟩])
           (.ret))
          (.skip)))
        (.seq (.region [⟨(.l 74), .mv (.p 6), none⟩,
           ⟨(.l 75), .mv (.p 8), none⟩,
           ⟨(.l 76), .bslice 3 3 1 [.int .i64 (0)] [(0, 1, (.l 74)), (1, 1, (.l 75)), (2, 1, (.c (.int .i64 (-1))))], none⟩,
           ⟨(.l 77), .call (.c (.fn (.func 7) [] [])) [(.l 76)], none⟩,
           ⟨(.l 73), .mv (.l 77), none⟩,
           ⟨(.l 78), .extract 0 (.l 73), none⟩,
           ⟨(.l 79), .extract 1 (.l 73), none⟩,
           ⟨(.p 10), .mv (.l 78), none⟩,
           ⟨(.p 11), .mv (.l 79), none⟩])
         (.seq (.seq (.region [⟨(.l 80), .mv (.p 11), none⟩,
             ⟨(.l 81), .bin .neq (.l 80) (.c (.int .i64 (0))), none⟩])
           (.cond (.l 81)
            (.seq (.region [⟨(.p 3), .mv (.c (.bool false)), none⟩])
             (.ret))
            (.skip)))
          (.seq (.region [⟨(.p 12), .mv (.c (.nilsl)), none⟩])
           (.seq (.seq (.region [⟨(.l 82), .mv (.p 6), none⟩,
               ⟨(.l 83), .mv (.p 8), none⟩,
               ⟨(.p 17), .bslice 3 2 1 [.int .i64 (0)] [(0, 1, (.l 82)), (1, 1, (.l 83))], none⟩,
               ⟨(.p 18), .len .sl (.p 17), none⟩,
               ⟨(.p 19), .mv (.c (.int .i64 (0))), none⟩])
             (.block 0
              (.loop b3_0)))
            (.seq (.region [⟨(.l 109), .mv (.p 10), none⟩,
               ⟨(.l 110), .mv (.p 12), none⟩,
               ⟨(.l 111), .call (.c (.fn (.func 9) [] [])) [(.l 109), (.l 110)], none⟩,
               ⟨(.l 112), .mv (.l 111), none⟩,
               ⟨(.l 113), .mv (.p 5), some ((.l 112), true)⟩,
               ⟨(.l 114), .mv (.p 4), some ((.l 112), true)⟩,
               ⟨(.l 115), .bin .mul (.l 113) (.l 114), some ((.l 112), true)⟩,
               ⟨(.l 116), .bin .lss (.l 115) (.c (.int .i64 (1000))), some ((.l 112), true)⟩,
               ⟨(.l 117), .mv (.l 116), some ((.l 112), true)⟩,
               ⟨(.l 118), .mv (.p 10), some ((.l 117), false)⟩,
               ⟨(.l 119), .call (.c (.fn (.func 10) [] [])) [(.l 118), (.c (.int .i64 (2)))], some ((.l 117), false)⟩,
               ⟨(.l 120), .un .not (.l 119), some ((.l 117), false)⟩,
               ⟨(.l 121), .pick (.l 117) (.c (.bool true)) (.l 120), some ((.l 112), true)⟩,
               ⟨(.l 122), .pick (.l 112) (.l 121) (.c (.bool false)), none⟩,
               ⟨(.l 123), .mv (.l 122), none⟩,
               ⟨(.l 124), .call (.c (.fn (.func 5) [] [])) [], some ((.l 123), true)⟩,
               ⟨(.l 125), .pick (.l 123) (.l 124) (.c (.bool false)), none⟩,
               ⟨(.p 3), .mv (.l 125), none⟩])
             (.ret))))))))))))
theorem ft3 : FT 3 = some ⟨126, [0, 1, 2, 6, 7, 8, 9, 10, 11, 12, 13, 14, 15, 16, 17, 18, 19, 84, 85, 86], [.var (.p 3)], b3⟩ := by kernel_rfl

def b4_0 : ICode :=
 .seq (.seq (.region [⟨(.l 11), .mv (.p 4), none⟩,
     ⟨(.l 12), .mv (.p 0), none⟩,
     ⟨(.l 13), .len .sl (.l 12), none⟩,
     ⟨(.l 14), .bin .lss (.l 11) (.l 13), none⟩])
   (.cond (.l 14)
    (.skip)
    (.exit 0)))
  (.seq (.block 1
    (.seq (.region [⟨(.l 17), .mv (.p 0), none⟩,
       ⟨(.l 18), .mv (.p 4), none⟩,
       ⟨(.l 19), .iaddr none 1 (.l 17) (.l 18), none⟩,
       ⟨(.l 20), .load 1 false (.l 19), none⟩,
       ⟨(.l 21), .call (.c (.fn (.func 11) [] [])) [(.l 20), (.c (.int .i64 (0))), (.c (.int .i64 (999999999)))], none⟩])
     (.cond (.l 21)
      (.seq (.region [⟨(.p 3), .mv (.c (.int .i64 (3))), none⟩])
       (.ret))
      (.skip))))
   (.region [⟨(.l 15), .mv (.p 4), none⟩,
     ⟨(.l 16), .bin .add (.l 15) (.c (.int .i64 (1))), none⟩,
     ⟨(.p 4), .mv (.l 16), none⟩]))
/-- stadion/stadionref05.CheckSamples -/
def b4 : ICode :=
 .seq (.region [⟨(.p 3), .mv (.c (.int .i64 (0))), none⟩])
  (.seq (.seq (.region [⟨(.l 8), .mv (.p 0), none⟩,
      ⟨(.l 9), .len .sl (.l 8), none⟩,
      ⟨(.l 10), .bin .gtr (.l 9) (.c (.int .i64 (1000))), none⟩])
    (.cond (.l 10)
     (.seq (.region [⟨(.p 3), .mv (.c (.int .i64 (5))), none⟩])
      (.ret))
     (.skip)))
   (.seq (.seq (.region [⟨(.p 4), .mv (.c (.int .i64 (0))), none⟩])
     (.block 0
      (.loop b4_0)))
    (.seq (.seq (.region [⟨(.l 22), .mv (.p 1), none⟩,
        ⟨(.l 23), .call (.c (.fn (.func 11) [] [])) [(.l 22), (.c (.int .i64 (1))), (.c (.int .i64 (10000)))], none⟩,
        ⟨(.l 24), .mv (.l 23), none⟩,
        ⟨(.l 25), .mv (.p 2), some ((.l 24), false)⟩,
        ⟨(.l 26), .call (.c (.fn (.func 11) [] [])) [(.l 25), (.c (.int .i64 (0))), (.c (.int .i64 (999999999)))], some ((.l 24), false)⟩,
        ⟨(.l 27), .pick (.l 24) (.c (.bool true)) (.l 26), none⟩])
      (.cond (.l 27)
       (.seq (.region [⟨(.p 3), .mv (.c (.int .i64 (3))), none⟩])
        (.ret))
       (.skip)))
     (.seq (.region [⟨(.p 3), .mv (.c (.int .i64 (0))), none⟩])
      (.ret)))))
theorem ft4 : FT 4 = some ⟨28, [0, 1, 2, 6, 7], [.var (.p 3)], b4⟩ := by kernel_rfl

/-- stadion/finish.Reaction -/
def b6 : ICode :=
 .seq (.region [⟨(.p 3), .box 3 1 (.p 2), none⟩,
    ⟨(.p 4), .mv (.c (.int .i64 (0))), none⟩,
    ⟨(.p 5), .mv (.c (.int .i64 (0))), none⟩])
  (.seq (.region [⟨(.l 11), .mv (.p 0), none⟩,
     ⟨(.l 12), .call (.c (.fn (.func 18) [] [])) [(.l 11), (.c (.fn (.func 19) [] []))], none⟩,
     ⟨(.p 6), .mv (.l 12), none⟩])
   (.seq (.seq (.draw [(⟨(.l 13), .mv (.p 0), none⟩, []),
       (⟨(.l 14), .len .sl (.l 13), none⟩, []),
       (⟨(.l 15), .bin .gtr (.l 14) (.c (.int .i64 (1000))), none⟩, []),
       (⟨(.l 16), .call (.c (.fn (.func 21) [] [])) [(.l 15), (.c (.int .i64 (5)))], none⟩, []),
       (⟨(.l 17), .mv (.p 6), none⟩, [0, 1, 2, 3]),
       (⟨(.l 18), .call (.c (.fn (.func 21) [] [])) [(.l 17), (.c (.int .i64 (3)))], none⟩, []),
       (⟨(.l 19), .mv (.p 1), none⟩, [0, 1, 2, 3, 4, 5]),
       (⟨(.l 20), .call (.c (.fn (.func 22) [] [])) [(.l 19), (.c (.int .i64 (1))), (.c (.int .i64 (10000)))], none⟩, []),
       (⟨(.l 21), .load 1 false (.p 3), none⟩, [0, 1, 2, 3, 4, 5, 6, 7]),
       (⟨(.l 22), .call (.c (.fn (.func 22) [] [])) [(.l 21), (.c (.int .i64 (0))), (.c (.int .i64 (999999999)))], none⟩, []),
       (⟨(.l 23), .bslice 25 4 1 [.int .i64 (0)] [(0, 1, (.l 16)), (1, 1, (.l 18)), (2, 1, (.l 20)), (3, 1, (.l 22))], none⟩, []),
       (⟨(.l 24), .call (.c (.fn (.func 20) [] [])) [(.l 23)], none⟩, []),
       (⟨(.p 7), .mv (.l 24), none⟩, [])])
     (.seq (.region [⟨(.l 25), .mv (.p 7), none⟩,
        ⟨(.l 26), .bin .neq (.l 25) (.c (.int .i64 (0))), none⟩])
      (.cond (.l 26)
       (.seq (.region [⟨(.l 27), .mv (.p 7), none⟩,
          ⟨(.p 4), .mv (.c (.int .i64 (0))), none⟩,
          ⟨(.p 5), .mv (.l 27), none⟩])
        (.ret))
       (.skip))))
    (.seq (.region [⟨(.l 28), .mv (.p 0), none⟩,
       ⟨(.l 29), .mkfn (.func 24) [] [(.p 3)], none⟩,
       ⟨(.l 30), .call (.c (.fn (.func 23) [] [])) [(.l 28), (.l 29)], none⟩,
       ⟨(.p 8), .mv (.l 30), none⟩])
     (.seq (.seq (.region [⟨(.l 31), .mv (.p 8), none⟩,
         ⟨(.l 32), .bin .lss (.l 31) (.c (.int .i64 (0))), none⟩])
       (.cond (.l 32)
        (.seq (.region [⟨(.p 4), .mv (.c (.int .i64 (0))), none⟩,
           ⟨(.p 5), .mv (.c (.int .i64 (7))), none⟩])
         (.ret))
        (.skip)))
      (.seq (.region [⟨(.l 33), .mv (.p 8), none⟩,
         ⟨(.l 34), .mv (.p 1), none⟩,
         ⟨(.l 35), .bin .mul (.l 33) (.l 34), none⟩,
         ⟨(.p 4), .mv (.l 35), none⟩,
         ⟨(.p 5), .mv (.c (.int .i64 (0))), none⟩])
       (.ret))))))
theorem ft6 : FT 6 = some ⟨36, [0, 1, 2, 5, 6, 7, 8, 9, 10], [.var (.p 4), .var (.p 5)], b6⟩ := by kernel_rfl

def b7_0 : ICode :=
 .seq (.region [⟨(.l 25), .bin .lss (.p 10) (.p 9), none⟩])
  (.seq (.cond (.l 25)
    (.skip)
    (.exit 0))
   (.seq (.block 1
     (.seq (.region [⟨(.l 26), .mv (.p 10), none⟩,
        ⟨(.l 27), .iaddr none 1 (.p 8) (.p 10), none⟩,
        ⟨(.l 28), .load 1 false (.l 27), none⟩,
        ⟨(.p 6), .mv (.l 26), none⟩,
        ⟨(.p 7), .mv (.l 28), none⟩])
      (.seq (.region [⟨(.l 29), .mv (.p 7), none⟩,
         ⟨(.l 30), .bin .geq (.l 29) (.c (.int .i64 (0))), none⟩,
         ⟨(.l 31), .mv (.l 30), none⟩,
         ⟨(.l 32), .mv (.p 7), some ((.l 31), true)⟩,
         ⟨(.l 33), .bin .lss (.l 32) (.c (.int .i64 (1000))), some ((.l 31), true)⟩,
         ⟨(.l 34), .pick (.l 31) (.l 33) (.c (.bool false)), none⟩])
       (.cond (.l 34)
        (.region [⟨(.l 35), .mv (.p 5), none⟩,
          ⟨(.l 36), .mv (.p 6), none⟩,
          ⟨(.l 37), .bin .add (.l 36) (.c (.int .i64 (1))), none⟩,
          ⟨(.l 38), .bslice 3 1 1 [.int .i64 (0)] [(0, 1, (.l 37))], none⟩,
          ⟨(.l 39), .append 3 1 8 (.l 35) (.l 38), none⟩,
          ⟨(.p 5), .mv (.l 39), none⟩])
        (.skip)))))
    (.region [⟨(.l 40), .bin .add (.p 10) (.c (.int .i64 (1))), none⟩,
      ⟨(.p 10), .mv (.l 40), none⟩])))
/-- stadion/finish.FalseStarts -/
def b7 : ICode :=
 .seq (.region [⟨(.p 1), .mv (.c (.nilsl)), none⟩,
    ⟨(.p 2), .mv (.c (.int .i64 (0))), none⟩])
  (.seq (.region [⟨(.l 9), .mv (.p 0), none⟩,
     ⟨(.l 10), .call (.c (.fn (.func 18) [] [])) [(.l 9), (.c (.fn (.func 25) [] []))], none⟩,
     ⟨(.p 3), .mv (.l 10), none⟩])
   (.seq (.seq (.region [⟨(.l 11), .mv (.p 0), none⟩,
       ⟨(.l 12), .len .sl (.l 11), none⟩,
       ⟨(.l 13), .bin .gtr (.l 12) (.c (.int .i64 (10))), none⟩,
       ⟨(.l 14), .call (.c (.fn (.func 21) [] [])) [(.l 13), (.c (.int .i64 (5)))], none⟩,
       ⟨(.l 15), .mv (.p 3), none⟩,
       ⟨(.l 16), .call (.c (.fn (.func 21) [] [])) [(.l 15), (.c (.int .i64 (3)))], none⟩,
       ⟨(.l 17), .bslice 25 2 1 [.int .i64 (0)] [(0, 1, (.l 14)), (1, 1, (.l 16))], none⟩,
       ⟨(.l 18), .call (.c (.fn (.func 20) [] [])) [(.l 17)], none⟩,
       ⟨(.p 4), .mv (.l 18), none⟩])
     (.seq (.region [⟨(.l 19), .mv (.p 4), none⟩,
        ⟨(.l 20), .bin .neq (.l 19) (.c (.int .i64 (0))), none⟩])
      (.cond (.l 20)
       (.seq (.region [⟨(.l 21), .mv (.p 4), none⟩,
          ⟨(.p 1), .mv (.c (.nilsl)), none⟩,
          ⟨(.p 2), .mv (.l 21), none⟩])
        (.ret))
       (.skip))))
    (.seq (.region [⟨(.p 5), .mv (.c (.nilsl)), none⟩])
     (.seq (.seq (.region [⟨(.p 8), .mv (.p 0), none⟩,
         ⟨(.p 9), .len .sl (.p 8), none⟩,
         ⟨(.p 10), .mv (.c (.int .i64 (0))), none⟩])
       (.block 0
        (.loop b7_0)))
      (.seq (.region [⟨(.l 41), .mv (.p 5), none⟩,
         ⟨(.p 1), .mv (.l 41), none⟩,
         ⟨(.p 2), .mv (.c (.int .i64 (0))), none⟩])
       (.ret))))))
theorem ft7 : FT 7 = some ⟨42, [0, 2, 3, 4, 5, 6, 7, 8, 22, 23, 24], [.var (.p 1), .var (.p 2)], b7⟩ := by kernel_rfl

/-- stadion/mark.Compare -/
def b8 : ICode :=
 .seq (.region [⟨(.p 2), .box 32 3 (.p 0), none⟩,
    ⟨(.p 3), .box 32 3 (.p 1), none⟩,
    ⟨(.p 4), .mv (.c (.int .i64 (0))), none⟩,
    ⟨(.p 5), .mv (.c (.int .i64 (0))), none⟩])
  (.seq (.seq (.draw [(⟨(.l 7), .load 3 true (.p 2), none⟩, []),
      (⟨(.l 8), .call (.c (.fn (.func 27) [] [])) [(.l 7)], none⟩, []),
      (⟨(.l 9), .load 3 true (.p 3), none⟩, [0, 1]),
      (⟨(.l 10), .call (.c (.fn (.func 27) [] [])) [(.l 9)], none⟩, []),
      (⟨(.l 11), .load 3 true (.p 2), none⟩, [0, 1, 2, 3]),
      (⟨(.l 12), .load 3 true (.p 3), none⟩, [0, 1, 2, 3, 4]),
      (⟨(.l 13), .call (.c (.fn (.func 29) [] [])) [(.l 11), (.l 12)], none⟩, []),
      (⟨(.l 14), .call (.c (.fn (.func 28) [] [])) [(.l 13), (.c (.int .i64 (13)))], none⟩, []),
      (⟨(.l 15), .bslice 25 3 1 [.int .i64 (0)] [(0, 1, (.l 8)), (1, 1, (.l 10)), (2, 1, (.l 14))], none⟩, []),
      (⟨(.l 16), .call (.c (.fn (.func 26) [] [])) [(.l 15)], none⟩, []),
      (⟨(.p 6), .mv (.l 16), none⟩, [])])
    (.seq (.region [⟨(.l 17), .mv (.p 6), none⟩,
       ⟨(.l 18), .bin .neq (.l 17) (.c (.int .i64 (0))), none⟩])
     (.cond (.l 18)
      (.seq (.region [⟨(.l 19), .mv (.p 6), none⟩,
         ⟨(.p 4), .mv (.c (.int .i64 (0))), none⟩,
         ⟨(.p 5), .mv (.l 19), none⟩])
       (.ret))
      (.skip))))
   (.seq (.region [⟨(.l 20), .load 3 true (.p 2), none⟩,
      ⟨(.l 21), .load 3 true (.p 3), none⟩,
      ⟨(.l 22), .call (.c (.fn (.func 30) [] [])) [(.l 20), (.l 21)], none⟩,
      ⟨(.p 4), .mv (.l 22), none⟩,
      ⟨(.p 5), .mv (.c (.int .i64 (0))), none⟩])
    (.ret)))
theorem ft8 : FT 8 = some ⟨23, [0, 1, 2, 3, 4, 5, 6], [.var (.p 4), .var (.p 5)], b8⟩ := by kernel_rfl

def b9_0 : ICode :=
 .seq (.seq (.region [⟨(.l 11), .mv (.p 3), none⟩,
     ⟨(.l 12), .mv (.p 0), none⟩,
     ⟨(.l 13), .len .sl (.l 12), none⟩,
     ⟨(.l 14), .bin .lss (.l 11) (.l 13), none⟩])
   (.cond (.l 14)
    (.skip)
    (.exit 0)))
  (.seq (.block 1
    (.seq (.draw [(⟨(.l 17), .mv (.p 0), none⟩, []),
       (⟨(.l 18), .mv (.p 3), none⟩, [0]),
       (⟨(.l 19), .iaddr none 1 (.l 17) (.l 18), none⟩, []),
       (⟨(.l 20), .load 1 false (.l 19), none⟩, []),
       (⟨(.l 21), .mv (.p 1), none⟩, [0, 1, 2, 3]),
       (⟨(.l 22), .mv (.p 3), none⟩, [0, 1, 2, 3, 4]),
       (⟨(.l 23), .iaddr none 1 (.l 21) (.l 22), none⟩, [0, 1, 2, 3]),
       (⟨(.l 24), .load 1 false (.l 23), none⟩, [0, 1, 2, 3]),
       (⟨(.l 25), .bin .neq (.l 20) (.l 24), none⟩, [])])
     (.cond (.l 25)
      (.seq (.region [⟨(.p 2), .mv (.c (.bool false)), none⟩])
       (.ret))
      (.skip))))
   (.region [⟨(.l 15), .mv (.p 3), none⟩,
     ⟨(.l 16), .bin .add (.l 15) (.c (.int .i64 (1))), none⟩,
     ⟨(.p 3), .mv (.l 16), none⟩]))
/-- stadion/stadionref01.SameInts -/
def b9 : ICode :=
 .seq (.region [⟨(.p 2), .mv (.c (.bool false)), none⟩])
  (.seq (.seq (.region [⟨(.l 6), .mv (.p 0), none⟩,
      ⟨(.l 7), .len .sl (.l 6), none⟩,
      ⟨(.l 8), .mv (.p 1), none⟩,
      ⟨(.l 9), .len .sl (.l 8), none⟩,
      ⟨(.l 10), .bin .neq (.l 7) (.l 9), none⟩])
    (.cond (.l 10)
     (.seq (.region [⟨(.p 2), .mv (.c (.bool false)), none⟩])
      (.ret))
     (.skip)))
   (.seq (.seq (.region [⟨(.p 3), .mv (.c (.int .i64 (0))), none⟩])
     (.block 0
      (.loop b9_0)))
    (.seq (.region [⟨(.p 2), .mv (.c (.bool true)), none⟩])
     (.ret))))
theorem ft9 : FT 9 = some ⟨26, [0, 1, 4, 5], [.var (.p 2)], b9⟩ := by kernel_rfl

def b10_0 : ICode :=
 .seq (.region [⟨(.l 9), .bin .lss (.p 5) (.p 4), none⟩])
  (.seq (.cond (.l 9)
    (.skip)
    (.exit 0))
   (.seq (.block 1
     (.seq (.region [⟨(.l 10), .mv (.p 5), none⟩,
        ⟨(.p 3), .mv (.l 10), none⟩])
      (.seq (.region [⟨(.l 11), .mv (.p 0), none⟩,
         ⟨(.l 12), .mv (.p 3), none⟩,
         ⟨(.l 13), .iaddr none 1 (.l 11) (.l 12), none⟩,
         ⟨(.l 14), .load 1 false (.l 13), none⟩,
         ⟨(.l 15), .mv (.p 1), none⟩,
         ⟨(.l 16), .bin .eql (.l 14) (.l 15), none⟩])
       (.cond (.l 16)
        (.seq (.region [⟨(.p 2), .mv (.c (.bool true)), none⟩])
         (.ret))
        (.skip)))))
    (.region [⟨(.l 17), .bin .add (.p 5) (.c (.int .i64 (1))), none⟩,
      ⟨(.p 5), .mv (.l 17), none⟩])))
/-- stadion/stadiontop.strideIn -/
def b10 : ICode :=
 .seq (.region [⟨(.p 2), .mv (.c (.bool false)), none⟩])
  (.seq (.seq (.region [⟨(.l 6), .mv (.p 0), none⟩,
      ⟨(.p 4), .len .sl (.l 6), none⟩,
      ⟨(.p 5), .mv (.c (.int .i64 (0))), none⟩])
    (.block 0
     (.loop b10_0)))
   (.seq (.region [⟨(.p 2), .mv (.c (.bool false)), none⟩])
    (.ret)))
theorem ft10 : FT 10 = some ⟨18, [0, 1, 4, 5, 7, 8], [.var (.p 2)], b10⟩ := by kernel_rfl

/-- stadion/stadionref05.outside -/
def b11 : ICode :=
 .seq (.region [⟨(.p 3), .mv (.c (.bool false)), none⟩])
  (.seq (.region [⟨(.l 7), .mv (.p 0), none⟩,
     ⟨(.l 8), .mv (.p 1), none⟩,
     ⟨(.l 9), .bin .lss (.l 7) (.l 8), none⟩,
     ⟨(.l 10), .mv (.l 9), none⟩,
     ⟨(.l 11), .mv (.p 0), some ((.l 10), false)⟩,
     ⟨(.l 12), .mv (.p 2), some ((.l 10), false)⟩,
     ⟨(.l 13), .bin .gtr (.l 11) (.l 12), some ((.l 10), false)⟩,
     ⟨(.l 14), .pick (.l 10) (.c (.bool true)) (.l 13), none⟩,
     ⟨(.p 3), .mv (.l 14), none⟩])
   (.ret))
theorem ft11 : FT 11 = some ⟨15, [0, 1, 2, 6], [.var (.p 3)], b11⟩ := by kernel_rfl

/-- slices.ContainsFunc[[]int,int] -/
def b18 : ICode :=
 .seq (.region [⟨(.p 2), .mv (.c (.bool false)), none⟩])
  (.seq (.region [⟨(.l 5), .mv (.p 0), none⟩,
     ⟨(.l 6), .mv (.p 1), none⟩,
     ⟨(.l 7), .call (.c (.fn (.func 23) [] [])) [(.l 5), (.l 6)], none⟩,
     ⟨(.l 8), .bin .geq (.l 7) (.c (.int .i64 (0))), none⟩,
     ⟨(.p 2), .mv (.l 8), none⟩])
   (.ret))
theorem ft18 : FT 18 = some ⟨9, [0, 1, 4], [.var (.p 2)], b18⟩ := by kernel_rfl

/-- stadion/finish.Reaction$1 -/
def b19 : ICode :=
 .seq (.region [⟨(.p 1), .mv (.c (.bool false)), none⟩])
  (.seq (.region [⟨(.l 3), .mv (.p 0), none⟩,
     ⟨(.l 4), .bin .lss (.l 3) (.c (.int .i64 (0))), none⟩,
     ⟨(.l 5), .mv (.l 4), none⟩,
     ⟨(.l 6), .mv (.p 0), some ((.l 5), false)⟩,
     ⟨(.l 7), .bin .gtr (.l 6) (.c (.int .i64 (999999999))), some ((.l 5), false)⟩,
     ⟨(.l 8), .pick (.l 5) (.c (.bool true)) (.l 7), none⟩,
     ⟨(.p 1), .mv (.l 8), none⟩])
   (.ret))
theorem ft19 : FT 19 = some ⟨9, [0, 2], [.var (.p 1)], b19⟩ := by kernel_rfl

def b20_0 : ICode :=
 .seq (.region [⟨(.l 8), .bin .lss (.p 5) (.p 4), none⟩])
  (.seq (.cond (.l 8)
    (.skip)
    (.exit 0))
   (.seq (.block 1
     (.seq (.region [⟨(.l 9), .iaddr none 1 (.p 3) (.p 5), none⟩,
        ⟨(.l 10), .load 1 false (.l 9), none⟩,
        ⟨(.p 2), .mv (.l 10), none⟩])
      (.seq (.region [⟨(.l 11), .mv (.p 2), none⟩,
         ⟨(.l 12), .bin .neq (.l 11) (.c (.int .i64 (0))), none⟩])
       (.cond (.l 12)
        (.seq (.region [⟨(.l 13), .mv (.p 2), none⟩,
           ⟨(.p 1), .mv (.l 13), none⟩])
         (.ret))
        (.skip)))))
    (.region [⟨(.l 14), .bin .add (.p 5) (.c (.int .i64 (1))), none⟩,
      ⟨(.p 5), .mv (.l 14), none⟩])))
/-- stadion/finish.first -/
def b20 : ICode :=
 .seq (.region [⟨(.p 1), .mv (.c (.int .i64 (0))), none⟩])
  (.seq (.seq (.region [⟨(.p 3), .mv (.p 0), none⟩,
      ⟨(.p 4), .len .sl (.p 3), none⟩,
      ⟨(.p 5), .mv (.c (.int .i64 (0))), none⟩])
    (.block 0
     (.loop b20_0)))
   (.seq (.region [⟨(.p 1), .mv (.c (.int .i64 (0))), none⟩])
    (.ret)))
theorem ft20 : FT 20 = some ⟨15, [0, 2, 4, 5, 6, 7], [.var (.p 1)], b20⟩ := by kernel_rfl

/-- stadion/finish.when -/
def b21 : ICode :=
 .seq (.region [⟨(.p 2), .mv (.c (.int .i64 (0))), none⟩])
  (.seq (.seq (.region [⟨(.l 5), .mv (.p 0), none⟩])
    (.cond (.l 5)
     (.seq (.region [⟨(.l 6), .mv (.p 1), none⟩,
        ⟨(.p 2), .mv (.l 6), none⟩])
      (.ret))
     (.skip)))
   (.seq (.region [⟨(.p 2), .mv (.c (.int .i64 (0))), none⟩])
    (.ret)))
theorem ft21 : FT 21 = some ⟨7, [0, 1, 4], [.var (.p 2)], b21⟩ := by kernel_rfl

/-- stadion/finish.within -/
def b22 : ICode :=
 .seq (.region [⟨(.p 3), .mv (.c (.int .i64 (0))), none⟩])
  (.seq (.region [⟨(.l 7), .mv (.p 0), none⟩,
     ⟨(.l 8), .mv (.p 1), none⟩,
     ⟨(.l 9), .bin .lss (.l 7) (.l 8), none⟩,
     ⟨(.l 10), .mv (.l 9), none⟩,
     ⟨(.l 11), .mv (.p 0), some ((.l 10), false)⟩,
     ⟨(.l 12), .mv (.p 2), some ((.l 10), false)⟩,
     ⟨(.l 13), .bin .gtr (.l 11) (.l 12), some ((.l 10), false)⟩,
     ⟨(.l 14), .pick (.l 10) (.c (.bool true)) (.l 13), none⟩,
     ⟨(.l 15), .call (.c (.fn (.func 21) [] [])) [(.l 14), (.c (.int .i64 (3)))], none⟩,
     ⟨(.p 3), .mv (.l 15), none⟩])
   (.ret))
theorem ft22 : FT 22 = some ⟨16, [0, 1, 2, 6], [.var (.p 3)], b22⟩ := by kernel_rfl

def b23_0 : ICode :=
 .seq (.region [⟨(.l 9), .bin .lss (.p 5) (.p 4), none⟩])
  (.seq (.cond (.l 9)
    (.skip)
    (.exit 0))
   (.seq (.block 1
     (.seq (.region [⟨(.l 10), .mv (.p 5), none⟩,
        ⟨(.p 3), .mv (.l 10), none⟩])
      (.seq (.region [⟨(.l 11), .mv (.p 1), none⟩,
         ⟨(.l 12), .mv (.p 0), none⟩,
         ⟨(.l 13), .mv (.p 3), none⟩,
         ⟨(.l 14), .iaddr none 1 (.l 12) (.l 13), none⟩,
         ⟨(.l 15), .load 1 false (.l 14), none⟩,
         ⟨(.l 16), .call (.l 11) [(.l 15)], none⟩])
       (.cond (.l 16)
        (.seq (.region [⟨(.l 17), .mv (.p 3), none⟩,
           ⟨(.p 2), .mv (.l 17), none⟩])
         (.ret))
        (.skip)))))
    (.region [⟨(.l 18), .bin .add (.p 5) (.c (.int .i64 (1))), none⟩,
      ⟨(.p 5), .mv (.l 18), none⟩])))
/-- slices.IndexFunc[[]int,int] -/
def b23 : ICode :=
 .seq (.region [⟨(.p 2), .mv (.c (.int .i64 (0))), none⟩])
  (.seq (.seq (.region [⟨(.l 6), .mv (.p 0), none⟩,
      ⟨(.p 4), .len .sl (.l 6), none⟩,
      ⟨(.p 5), .mv (.c (.int .i64 (0))), none⟩])
    (.block 0
     (.loop b23_0)))
   (.seq (.region [⟨(.p 2), .mv (.c (.int .i64 (-1))), none⟩])
    (.ret)))
theorem ft23 : FT 23 = some ⟨19, [0, 1, 4, 5, 7, 8], [.var (.p 2)], b23⟩ := by kernel_rfl

/-- stadion/finish.Reaction$2 -/
def b24 : ICode :=
 .seq (.region [⟨(.p 2), .mv (.c (.bool false)), none⟩])
  (.seq (.region [⟨(.l 4), .mv (.p 0), none⟩,
     ⟨(.l 5), .load 1 false (.p 1), none⟩,
     ⟨(.l 6), .bin .gtr (.l 4) (.l 5), none⟩,
     ⟨(.p 2), .mv (.l 6), none⟩])
   (.ret))
theorem ft24 : FT 24 = some ⟨7, [0, 1, 3], [.var (.p 2)], b24⟩ := by kernel_rfl

/-- stadion/finish.FalseStarts$1 -/
def b25 : ICode :=
 .seq (.region [⟨(.p 1), .mv (.c (.bool false)), none⟩])
  (.seq (.region [⟨(.l 3), .mv (.p 0), none⟩,
     ⟨(.l 4), .bin .lss (.l 3) (.c (.int .i64 (-1))), none⟩,
     ⟨(.l 5), .mv (.l 4), none⟩,
     ⟨(.l 6), .mv (.p 0), some ((.l 5), false)⟩,
     ⟨(.l 7), .bin .gtr (.l 6) (.c (.int .i64 (863999999))), some ((.l 5), false)⟩,
     ⟨(.l 8), .pick (.l 5) (.c (.bool true)) (.l 7), none⟩,
     ⟨(.p 1), .mv (.l 8), none⟩])
   (.ret))
theorem ft25 : FT 25 = some ⟨9, [0, 2], [.var (.p 1)], b25⟩ := by kernel_rfl

def b26_0 : ICode :=
 .seq (.region [⟨(.l 8), .bin .lss (.p 5) (.p 4), none⟩])
  (.seq (.cond (.l 8)
    (.skip)
    (.exit 0))
   (.seq (.block 1
     (.seq (.region [⟨(.l 9), .iaddr none 1 (.p 3) (.p 5), none⟩,
        ⟨(.l 10), .load 1 false (.l 9), none⟩,
        ⟨(.p 2), .mv (.l 10), none⟩])
      (.seq (.region [⟨(.l 11), .mv (.p 2), none⟩,
         ⟨(.l 12), .bin .neq (.l 11) (.c (.int .i64 (0))), none⟩])
       (.cond (.l 12)
        (.seq (.region [⟨(.l 13), .mv (.p 2), none⟩,
           ⟨(.p 1), .mv (.l 13), none⟩])
         (.ret))
        (.skip)))))
    (.region [⟨(.l 14), .bin .add (.p 5) (.c (.int .i64 (1))), none⟩,
      ⟨(.p 5), .mv (.l 14), none⟩])))
/-- stadion/mark.first -/
def b26 : ICode :=
 .seq (.region [⟨(.p 1), .mv (.c (.int .i64 (0))), none⟩])
  (.seq (.seq (.region [⟨(.p 3), .mv (.p 0), none⟩,
      ⟨(.p 4), .len .sl (.p 3), none⟩,
      ⟨(.p 5), .mv (.c (.int .i64 (0))), none⟩])
    (.block 0
     (.loop b26_0)))
   (.seq (.region [⟨(.p 1), .mv (.c (.int .i64 (0))), none⟩])
    (.ret)))
theorem ft26 : FT 26 = some ⟨15, [0, 2, 4, 5, 6, 7], [.var (.p 1)], b26⟩ := by kernel_rfl

/-- stadion/mark.CheckMark -/
def b27 : ICode :=
 .seq (.region [⟨(.p 1), .box 32 3 (.p 0), none⟩,
    ⟨(.p 2), .mv (.c (.int .i64 (0))), none⟩])
  (.seq (.seq (.region [⟨(.l 5), .faddr 0 (.p 1), none⟩,
      ⟨(.l 6), .load 1 false (.l 5), none⟩,
      ⟨(.l 7), .bin .eql (.l 6) (.c (.str [110, 111, 110, 101])), none⟩])
    (.cond (.l 7)
     (.seq (.draw [(⟨(.l 8), .faddr 2 (.p 1), none⟩, []),
        (⟨(.l 9), .load 1 false (.l 8), none⟩, []),
        (⟨(.l 10), .call (.c (.fn (.func 38) [] [])) [(.l 9)], none⟩, []),
        (⟨(.l 11), .un .not (.l 10), none⟩, []),
        (⟨(.l 12), .call (.c (.fn (.func 28) [] [])) [(.l 11), (.c (.int .i64 (1)))], none⟩, []),
        (⟨(.l 13), .faddr 1 (.p 1), none⟩, [0, 1, 2, 3, 4]),
        (⟨(.l 14), .load 1 false (.l 13), none⟩, [0, 1, 2, 3, 4]),
        (⟨(.l 15), .bin .neq (.l 14) (.c (.int .i64 (0))), none⟩, [0, 1, 2, 3, 4]),
        (⟨(.l 16), .call (.c (.fn (.func 28) [] [])) [(.l 15), (.c (.int .i64 (3)))], none⟩, []),
        (⟨(.l 17), .bslice 25 2 1 [.int .i64 (0)] [(0, 1, (.l 12)), (1, 1, (.l 16))], none⟩, []),
        (⟨(.l 18), .call (.c (.fn (.func 26) [] [])) [(.l 17)], none⟩, []),
        (⟨(.p 2), .mv (.l 18), none⟩, [])])
      (.ret))
     (.skip)))
   (.seq (.draw [(⟨(.l 20), .call (.c (.fn (.func 35) [] [])) [], none⟩, []),
      (⟨(.l 21), .faddr 0 (.p 1), none⟩, [0]),
      (⟨(.l 22), .load 1 false (.l 21), none⟩, [0]),
      (⟨(.l 23), .lookup .str (.agg [.int .i64 (0), .int .i64 (0), .bool false, .nilmap, .nilfn]) (.l 20) (.l 22) true, none⟩, []),
      (⟨(.l 19), .mv (.l 23), none⟩, []),
      (⟨(.l 24), .extract 0 (.l 19), none⟩, []),
      (⟨(.l 25), .extract 1 (.l 19), none⟩, [5]),
      (⟨(.p 3), .alloc 78 [.int .i64 (0), .int .i64 (0), .bool false, .nilmap, .nilfn], none⟩, [0, 1, 2, 3, 4, 5, 6]),
      (⟨.no, .store 5 (.p 3) (.l 24), none⟩, [6]),
      (⟨(.p 4), .mv (.l 25), none⟩, [])])
    (.seq (.draw [(⟨(.l 26), .mv (.p 4), none⟩, []),
       (⟨(.l 27), .un .not (.l 26), none⟩, []),
       (⟨(.l 28), .call (.c (.fn (.func 28) [] [])) [(.l 27), (.c (.int .i64 (13)))], none⟩, []),
       (⟨(.l 29), .faddr 2 (.p 1), none⟩, [0, 1, 2]),
       (⟨(.l 30), .load 1 false (.l 29), none⟩, [0, 1, 2]),
       (⟨(.l 31), .bin .neq (.l 30) (.c (.str [])), none⟩, [0, 1, 2]),
       (⟨(.l 32), .call (.c (.fn (.func 28) [] [])) [(.l 31), (.c (.int .i64 (1)))], none⟩, []),
       (⟨(.l 33), .faddr 1 (.p 1), none⟩, [0, 1, 2, 3, 4, 5, 6]),
       (⟨(.l 34), .load 1 false (.l 33), none⟩, [0, 1, 2, 3, 4, 5, 6]),
       (⟨(.l 35), .faddr 0 (.p 3), none⟩, [0, 1, 2, 3, 4, 5, 6, 7, 8]),
       (⟨(.l 36), .load 1 false (.l 35), none⟩, [0, 1, 2, 3, 4, 5, 6, 7, 8]),
       (⟨(.l 37), .faddr 1 (.p 3), none⟩, [0, 1, 2, 3, 4, 5, 6, 7, 8, 9, 10]),
       (⟨(.l 38), .load 1 false (.l 37), none⟩, [0, 1, 2, 3, 4, 5, 6, 7, 8, 9, 10]),
       (⟨(.l 39), .call (.c (.fn (.func 39) [] [])) [(.l 34), (.l 36), (.l 38)], none⟩, []),
       (⟨(.l 40), .call (.c (.fn (.func 28) [] [])) [(.l 39), (.c (.int .i64 (3)))], none⟩, []),
       (⟨(.l 41), .bslice 25 3 1 [.int .i64 (0)] [(0, 1, (.l 28)), (1, 1, (.l 32)), (2, 1, (.l 40))], none⟩, []),
       (⟨(.l 42), .call (.c (.fn (.func 26) [] [])) [(.l 41)], none⟩, []),
       (⟨(.p 2), .mv (.l 42), none⟩, [])])
     (.ret))))
theorem ft27 : FT 27 = some ⟨43, [0, 1, 2, 3, 4], [.var (.p 2)], b27⟩ := by kernel_rfl

/-- stadion/mark.when -/
def b28 : ICode :=
 .seq (.region [⟨(.p 2), .mv (.c (.int .i64 (0))), none⟩])
  (.seq (.seq (.region [⟨(.l 5), .mv (.p 0), none⟩])
    (.cond (.l 5)
     (.seq (.region [⟨(.l 6), .mv (.p 1), none⟩,
        ⟨(.p 2), .mv (.l 6), none⟩])
      (.ret))
     (.skip)))
   (.seq (.region [⟨(.p 2), .mv (.c (.int .i64 (0))), none⟩])
    (.ret)))
theorem ft28 : FT 28 = some ⟨7, [0, 1, 4], [.var (.p 2)], b28⟩ := by kernel_rfl

/-- stadion/mark.differ -/
def b29 : ICode :=
 .seq (.region [⟨(.p 2), .box 32 3 (.p 0), none⟩,
    ⟨(.p 3), .box 32 3 (.p 1), none⟩,
    ⟨(.p 4), .mv (.c (.bool false)), none⟩])
  (.seq (.region [⟨(.l 5), .faddr 0 (.p 2), none⟩,
     ⟨(.l 6), .load 1 false (.l 5), none⟩,
     ⟨(.l 7), .faddr 0 (.p 3), none⟩,
     ⟨(.l 8), .load 1 false (.l 7), none⟩,
     ⟨(.l 9), .bin .neq (.l 6) (.l 8), none⟩,
     ⟨(.l 10), .mv (.l 9), none⟩,
     ⟨(.l 11), .faddr 0 (.p 2), some ((.l 10), true)⟩,
     ⟨(.l 12), .load 1 false (.l 11), some ((.l 10), true)⟩,
     ⟨(.l 13), .bin .neq (.l 12) (.c (.str [110, 111, 110, 101])), some ((.l 10), true)⟩,
     ⟨(.l 14), .pick (.l 10) (.l 13) (.c (.bool false)), none⟩,
     ⟨(.l 15), .mv (.l 14), none⟩,
     ⟨(.l 16), .faddr 0 (.p 3), some ((.l 15), true)⟩,
     ⟨(.l 17), .load 1 false (.l 16), some ((.l 15), true)⟩,
     ⟨(.l 18), .bin .neq (.l 17) (.c (.str [110, 111, 110, 101])), some ((.l 15), true)⟩,
     ⟨(.l 19), .pick (.l 15) (.l 18) (.c (.bool false)), none⟩,
     ⟨(.p 4), .mv (.l 19), none⟩])
   (.ret))
theorem ft29 : FT 29 = some ⟨20, [0, 1, 2, 3, 4], [.var (.p 4)], b29⟩ := by kernel_rfl

/-- stadion/mark.compare -/
def b30 : ICode :=
 .seq (.region [⟨(.p 2), .box 32 3 (.p 0), none⟩,
    ⟨(.p 3), .box 32 3 (.p 1), none⟩,
    ⟨(.p 4), .mv (.c (.int .i64 (0))), none⟩])
  (.seq (.draw [(⟨(.l 7), .load 3 true (.p 2), none⟩, []),
     (⟨(.l 8), .call (.c (.fn (.func 40) [] [])) [(.l 7)], none⟩, []),
     (⟨(.l 9), .load 3 true (.p 3), none⟩, [0, 1]),
     (⟨(.l 10), .call (.c (.fn (.func 40) [] [])) [(.l 9)], none⟩, []),
     (⟨(.p 5), .mv (.l 8), none⟩, []),
     (⟨(.p 6), .mv (.l 10), none⟩, [])])
   (.seq (.block 0
     (.seq (.region [⟨(.l 12), .mv (.p 5), none⟩,
        ⟨(.l 13), .mv (.p 6), none⟩,
        ⟨(.l 14), .bin .gtr (.l 12) (.l 13), none⟩,
        ⟨(.l 11), .mv (.l 14), none⟩])
      (.cond (.l 11)
       (.seq (.region [⟨(.p 4), .mv (.c (.int .i64 (-1))), none⟩])
        (.ret))
       (.seq (.region [⟨(.l 16), .mv (.p 5), none⟩,
          ⟨(.l 17), .mv (.p 6), none⟩,
          ⟨(.l 18), .bin .lss (.l 16) (.l 17), none⟩,
          ⟨(.l 15), .mv (.l 18), none⟩])
        (.cond (.l 15)
         (.seq (.region [⟨(.p 4), .mv (.c (.int .i64 (1))), none⟩])
          (.ret))
         (.skip))))))
    (.seq (.region [⟨(.p 4), .mv (.c (.int .i64 (0))), none⟩])
     (.ret))))
theorem ft30 : FT 30 = some ⟨19, [0, 1, 2, 3, 4, 5, 6], [.var (.p 4)], b30⟩ := by kernel_rfl

/-- slices.Contains[[]string,string] -/
def b34 : ICode :=
 .seq (.region [⟨(.p 2), .mv (.c (.bool false)), none⟩])
  (.seq (.region [⟨(.l 5), .mv (.p 0), none⟩,
     ⟨(.l 6), .mv (.p 1), none⟩,
     ⟨(.l 7), .call (.c (.fn (.func 56) [] [])) [(.l 5), (.l 6)], none⟩,
     ⟨(.l 8), .bin .geq (.l 7) (.c (.int .i64 (0))), none⟩,
     ⟨(.p 2), .mv (.l 8), none⟩])
   (.ret))
theorem ft34 : FT 34 = some ⟨9, [0, 1, 4], [.var (.p 2)], b34⟩ := by kernel_rfl

/-- stadion/mark.kinds -/
def b35 : ICode :=
 .seq (.region [⟨(.p 0), .mv (.c (.nilmap)), none⟩])
  (.seq (.region [⟨(.l 1), .mkmap, none⟩,
     ⟨(.l 2), .mkmap, none⟩,
     ⟨.no, .mapset .str (.l 2) (.c (.str [101, 120, 97, 99, 116])) (.c (.int .i64 (1))), none⟩,
     ⟨.no, .mapset .str (.l 2) (.c (.str [104, 117, 110, 100, 114, 101, 100, 116, 104, 115])) (.c (.int .i64 (100))), none⟩,
     ⟨.no, .mapset .str (.l 2) (.c (.str [116, 101, 110, 116, 104, 115])) (.c (.int .i64 (1000))), none⟩,
     ⟨(.l 3), .mv (.l 2), none⟩,
     ⟨(.l 4), .build [.int .i64 (0), .int .i64 (0), .bool false, .nilmap, .nilfn] [(0, 1, (.c (.int .i64 (1)))), (1, 1, (.c (.int .i64 (863999999)))), (2, 1, (.c (.bool false))), (3, 1, (.l 3)), (4, 1, (.c (.fn (.func 57) [] [])))], none⟩,
     ⟨.no, .mapset .str (.l 1) (.c (.str [116, 105, 109, 101])) (.l 4), none⟩,
     ⟨(.l 5), .mkmap, none⟩,
     ⟨.no, .mapset .str (.l 5) (.c (.str [101, 120, 97, 99, 116])) (.c (.int .i64 (1))), none⟩,
     ⟨.no, .mapset .str (.l 5) (.c (.str [99, 101, 110, 116, 105, 109, 101, 116, 114, 101, 115])) (.c (.int .i64 (10))), none⟩,
     ⟨(.l 6), .mv (.l 5), none⟩,
     ⟨(.l 7), .build [.int .i64 (0), .int .i64 (0), .bool false, .nilmap, .nilfn] [(0, 1, (.c (.int .i64 (0)))), (1, 1, (.c (.int .i64 (999999)))), (2, 1, (.c (.bool true))), (3, 1, (.l 6)), (4, 1, (.c (.fn (.func 58) [] [])))], none⟩,
     ⟨.no, .mapset .str (.l 1) (.c (.str [108, 101, 110, 103, 116, 104])) (.l 7), none⟩,
     ⟨(.l 8), .mkmap, none⟩,
     ⟨.no, .mapset .str (.l 8) (.c (.str [101, 120, 97, 99, 116])) (.c (.int .i64 (1))), none⟩,
     ⟨(.l 9), .mv (.l 8), none⟩,
     ⟨(.l 10), .build [.int .i64 (0), .int .i64 (0), .bool false, .nilmap, .nilfn] [(0, 1, (.c (.int .i64 (0)))), (1, 1, (.c (.int .i64 (99999)))), (2, 1, (.c (.bool true))), (3, 1, (.l 9)), (4, 1, (.c (.fn (.func 59) [] [])))], none⟩,
     ⟨.no, .mapset .str (.l 1) (.c (.str [112, 111, 105, 110, 116, 115])) (.l 10), none⟩,
     ⟨(.l 11), .mv (.l 1), none⟩,
     ⟨(.p 0), .mv (.l 11), none⟩])
   (.ret))
theorem ft35 : FT 35 = some ⟨12, [0], [.var (.p 0)], b35⟩ := by kernel_rfl

/-- stadion/mark.isReason -/
def b38 : ICode :=
 .seq (.region [⟨(.p 1), .mv (.c (.bool false)), none⟩])
  (.seq (.region [⟨(.l 3), .bslice 9 4 1 [.str []] [(0, 1, (.c (.str [68, 78, 83]))), (1, 1, (.c (.str [68, 78, 70]))), (2, 1, (.c (.str [68, 81]))), (3, 1, (.c (.str [78, 77])))], none⟩,
     ⟨(.l 4), .mv (.p 0), none⟩,
     ⟨(.l 5), .call (.c (.fn (.func 34) [] [])) [(.l 3), (.l 4)], none⟩,
     ⟨(.p 1), .mv (.l 5), none⟩])
   (.ret))
theorem ft38 : FT 38 = some ⟨6, [0, 2], [.var (.p 1)], b38⟩ := by kernel_rfl

/-- stadion/mark.outside -/
def b39 : ICode :=
 .seq (.region [⟨(.p 3), .mv (.c (.bool false)), none⟩])
  (.seq (.region [⟨(.l 7), .mv (.p 0), none⟩,
     ⟨(.l 8), .mv (.p 1), none⟩,
     ⟨(.l 9), .bin .lss (.l 7) (.l 8), none⟩,
     ⟨(.l 10), .mv (.l 9), none⟩,
     ⟨(.l 11), .mv (.p 0), some ((.l 10), false)⟩,
     ⟨(.l 12), .mv (.p 2), some ((.l 10), false)⟩,
     ⟨(.l 13), .bin .gtr (.l 11) (.l 12), some ((.l 10), false)⟩,
     ⟨(.l 14), .pick (.l 10) (.c (.bool true)) (.l 13), none⟩,
     ⟨(.p 3), .mv (.l 14), none⟩])
   (.ret))
theorem ft39 : FT 39 = some ⟨15, [0, 1, 2, 6], [.var (.p 3)], b39⟩ := by kernel_rfl

/-- stadion/mark.worth -/
def b40 : ICode :=
 .seq (.region [⟨(.p 1), .box 32 3 (.p 0), none⟩,
    ⟨(.p 2), .mv (.c (.int .i64 (0))), none⟩])
  (.seq (.draw [(⟨(.l 6), .call (.c (.fn (.func 35) [] [])) [], none⟩, []),
     (⟨(.l 7), .faddr 0 (.p 1), none⟩, [0]),
     (⟨(.l 8), .load 1 false (.l 7), none⟩, [0]),
     (⟨(.l 9), .lookup .str (.agg [.int .i64 (0), .int .i64 (0), .bool false, .nilmap, .nilfn]) (.l 6) (.l 8) true, none⟩, []),
     (⟨(.l 5), .mv (.l 9), none⟩, []),
     (⟨(.l 10), .extract 0 (.l 5), none⟩, []),
     (⟨(.l 11), .extract 1 (.l 5), none⟩, [5]),
     (⟨(.p 3), .alloc 78 [.int .i64 (0), .int .i64 (0), .bool false, .nilmap, .nilfn], none⟩, [0, 1, 2, 3, 4, 5, 6]),
     (⟨.no, .store 5 (.p 3) (.l 10), none⟩, [6]),
     (⟨(.p 4), .mv (.l 11), none⟩, [])])
   (.seq (.block 0
     (.seq (.region [⟨(.l 13), .mv (.p 4), none⟩,
        ⟨(.l 14), .un .not (.l 13), none⟩,
        ⟨(.l 12), .mv (.l 14), none⟩])
      (.cond (.l 12)
       (.seq (.region [⟨(.p 2), .mv (.c (.int .i64 (-864000000))), none⟩])
        (.ret))
       (.seq (.region [⟨(.l 16), .faddr 2 (.p 3), none⟩,
          ⟨(.l 17), .load 1 false (.l 16), none⟩,
          ⟨(.l 15), .mv (.l 17), none⟩])
        (.cond (.l 15)
         (.seq (.region [⟨(.l 18), .faddr 1 (.p 1), none⟩,
            ⟨(.l 19), .load 1 false (.l 18), none⟩,
            ⟨(.p 2), .mv (.l 19), none⟩])
          (.ret))
         (.skip))))))
    (.seq (.region [⟨(.l 20), .faddr 1 (.p 1), none⟩,
       ⟨(.l 21), .load 1 false (.l 20), none⟩,
       ⟨(.l 22), .un .neg (.l 21), none⟩,
       ⟨(.p 2), .mv (.l 22), none⟩])
     (.ret))))
theorem ft40 : FT 40 = some ⟨23, [0, 1, 2, 3, 4], [.var (.p 2)], b40⟩ := by kernel_rfl

def b56_0 : ICode :=
 .seq (.region [⟨(.l 9), .bin .lss (.p 5) (.p 4), none⟩])
  (.seq (.cond (.l 9)
    (.skip)
    (.exit 0))
   (.seq (.block 1
     (.seq (.region [⟨(.l 10), .mv (.p 5), none⟩,
        ⟨(.p 3), .mv (.l 10), none⟩])
      (.seq (.region [⟨(.l 11), .mv (.p 1), none⟩,
         ⟨(.l 12), .mv (.p 0), none⟩,
         ⟨(.l 13), .mv (.p 3), none⟩,
         ⟨(.l 14), .iaddr none 1 (.l 12) (.l 13), none⟩,
         ⟨(.l 15), .load 1 false (.l 14), none⟩,
         ⟨(.l 16), .bin .eql (.l 11) (.l 15), none⟩])
       (.cond (.l 16)
        (.seq (.region [⟨(.l 17), .mv (.p 3), none⟩,
           ⟨(.p 2), .mv (.l 17), none⟩])
         (.ret))
        (.skip)))))
    (.region [⟨(.l 18), .bin .add (.p 5) (.c (.int .i64 (1))), none⟩,
      ⟨(.p 5), .mv (.l 18), none⟩])))
/-- slices.Index[[]string,string] -/
def b56 : ICode :=
 .seq (.region [⟨(.p 2), .mv (.c (.int .i64 (0))), none⟩])
  (.seq (.seq (.region [⟨(.l 6), .mv (.p 0), none⟩,
      ⟨(.p 4), .len .sl (.l 6), none⟩,
      ⟨(.p 5), .mv (.c (.int .i64 (0))), none⟩])
    (.block 0
     (.loop b56_0)))
   (.seq (.region [⟨(.p 2), .mv (.c (.int .i64 (-1))), none⟩])
    (.ret)))
theorem ft56 : FT 56 = some ⟨19, [0, 1, 4, 5, 7, 8], [.var (.p 2)], b56⟩ := by kernel_rfl

end Go.Ab.T5


/-
  Own work: what TopStrideStarts calls of finish, one function after another.
-/
namespace Go.Ab.T5
variable {M : Mach} {cap : Option Nat}
abbrev fnV (k : Nat) : AV := .fn (.func k) [] []

def outI (x lo hi : Int) : Bool := decide (x < lo) || decide (hi < x)
theorem w11 (hft : M.FT = FT) (x lo hi : Int) : Run M 11 [.int .i64 x, .int .i64 lo, .int .i64 hi] [] ⟨.bool (outI x lo hi), [], []⟩ := by
  refine run_of_W (by rw [hft]; exact ft11) (by simp) ?_
  unfold b11
  simp only [List.map_cons, List.map_nil, List.getElem?_cons_zero, List.getElem?_cons_succ, List.getElem?_nil, Option.getD_some, Option.getD_none]
  repeat' first | apply W.seq | apply SQn | apply W.region | apply WO.nil | apply W.block | apply W.ret | apply W.exit | apply W.skip | apply SQr | apply SQe | apply BQn | apply BQr | apply BQe | (apply BQo; exact rfl) | apply LQe | apply LQr | (apply W.condT; exact rfl) | (apply W.condF; exact rfl) | (apply W.cond; exact rfl; all_goals intro _) | (apply WO.gT; exact rfl) | (apply WO.gF; exact rfl) | (apply WO.sT; exact rfl) | (apply WO.sF; exact rfl) | (apply WO.sU; exact rfl) | (apply WO.lss; exact rfl; exact rfl; all_goals first | (intro _; exfalso; omega) | intro _) | (apply WO.gtr; exact rfl; exact rfl; all_goals first | (intro _; exfalso; omega) | intro _) | (apply WO.pkT; exact rfl; exact rfl) | (apply WO.pkF; exact rfl; exact rfl) | (apply WO.pl; exact rfl; exact rfl) | (apply WO.pp; exact rfl; exact rfl)
  all_goals exact ⟨.inr rfl, rfl, _, rfl, congrArg AV.bool (by simp_all [outI]), rfl⟩
theorem w21 (hft : M.FT = FT) (t : Bool) (e : Int) : Run M 21 [.bool t, .int .i64 e] [] ⟨.int .i64 (if t then e else 0), [], []⟩ := by
  refine run_of_W (by rw [hft]; exact ft21) (by simp) ?_
  unfold b21
  simp only [List.map_cons, List.map_nil, List.getElem?_cons_zero, List.getElem?_cons_succ, List.getElem?_nil, Option.getD_some, Option.getD_none]
  cases t
  all_goals
    repeat' first | apply W.seq | apply SQn | apply W.region | apply WO.nil | apply W.block | apply W.ret | apply W.exit | apply W.skip | apply SQr | apply SQe | apply BQn | apply BQr | apply BQe | (apply BQo; exact rfl) | apply LQe | apply LQr | (apply W.condT; exact rfl) | (apply W.condF; exact rfl) | (apply W.cond; exact rfl; all_goals intro _) | (apply WO.pl; exact rfl; exact rfl) | (apply WO.pp; exact rfl; exact rfl)
  all_goals exact ⟨.inr rfl, rfl, _, rfl, rfl, rfl⟩
theorem w22 (hft : M.FT = FT) (h91 : ∀ t e h, M.ext 21 [.bool t, .int .i64 e] h = some ⟨.int .i64 (if t then e else 0), h, []⟩) (x lo hi : Int) : Run M 22 [.int .i64 x, .int .i64 lo, .int .i64 hi] [] ⟨.int .i64 (if outI x lo hi then 3 else 0), [], []⟩ := by
  have q1 := h91 true 3
  have q2 := h91 false 3
  refine run_of_W (by rw [hft]; exact ft22) (by simp) ?_
  unfold b22
  simp only [List.map_cons, List.map_nil, List.getElem?_cons_zero, List.getElem?_cons_succ, List.getElem?_nil, Option.getD_some, Option.getD_none]
  repeat' first | apply W.seq | apply SQn | apply W.region | apply WO.nil | apply W.block | apply W.ret | apply W.exit | apply W.skip | apply SQr | apply SQe | apply BQn | apply BQr | apply BQe | (apply BQo; exact rfl) | apply LQe | apply LQr | (apply W.condT; exact rfl) | (apply W.condF; exact rfl) | (apply W.cond; exact rfl; all_goals intro _) | (apply WO.gT; exact rfl) | (apply WO.gF; exact rfl) | (apply WO.sT; exact rfl) | (apply WO.sF; exact rfl) | (apply WO.sU; exact rfl) | (apply WO.lss; exact rfl; exact rfl; all_goals first | (intro _; exfalso; omega) | intro _) | (apply WO.gtr; exact rfl; exact rfl; all_goals first | (intro _; exfalso; omega) | intro _) | (apply WO.pkT; exact rfl; exact rfl) | (apply WO.pkF; exact rfl; exact rfl) | (apply WO.cll; exact rfl; exact rfl; first | exact q1 _ | exact q2 _) | (apply WO.clb; exact rfl; exact rfl; exact rfl; all_goals first | (intro h; exact absurd h (by decide)) | intro _) | (apply WO.cll; exact rfl; exact rfl; exact rfl) | (apply WO.pl; exact rfl; exact rfl) | (apply WO.pp; exact rfl; exact rfl)
  all_goals exact ⟨.inr rfl, rfl, _, rfl, congrArg (AV.int .i64) (by simp_all [outI]), rfl⟩

def firstNZ : List Int → Int
  | [] => 0
  | e :: r => if e = 0 then firstNZ r else e
theorem firstNZ_drop {l : List Int} {i : Nat} (h : i < l.length) : firstNZ (l.drop i) = if l[i]! = 0 then firstNZ (l.drop (i + 1)) else l[i]! := by
  rw [List.drop_eq_getElem_cons h, getElem!_pos l i h, firstNZ]
theorem loop20 (l : List Int) (hl : l.length < 4611686018427387904) {Q : Ex → StW → Prop} : ∀ (r i : Nat) (a2 : AV) (lo : List (Nat × AV)) (wr : List Nat), i + r = l.length →
    (firstNZ (l.drop i) = 0 → ∀ a2 lo wr, Q (.exit 0) ⟨⟨[.vs (ints l) l.length cap, .int .i64 0, a2, .vs (ints l) l.length cap, .int .i64 l.length, .int .i64 l.length], lo, [], []⟩, wr⟩) →
    (∀ a2 a5 lo wr, Q .ret ⟨⟨[.vs (ints l) l.length cap, .int .i64 (firstNZ (l.drop i)), a2, .vs (ints l) l.length cap, .int .i64 l.length, a5], lo, [], []⟩, wr⟩) →
    W M (.loop b20_0) ⟨⟨[.vs (ints l) l.length cap, .int .i64 0, a2, .vs (ints l) l.length cap, .int .i64 l.length, .int .i64 i], lo, [], []⟩, wr⟩ Q
  | 0, i, a2, lo, wr, hi, h1, h2 => by
    obtain rfl : i = l.length := by omega
    refine W.loop ?_
    unfold b20_0
    repeat' first | apply W.seq | apply SQn | apply W.region | apply WO.nil | apply W.block | apply W.ret | apply W.exit | apply W.skip | apply SQr | apply SQe | apply BQn | apply BQr | apply BQe | (apply BQo; exact rfl) | apply LQe | apply LQr | (apply W.condT; exact rfl) | (apply W.condF; exact rfl) | (apply W.cond; exact rfl; all_goals intro _) | (apply WO.lss; exact rfl; exact rfl; all_goals first | (intro _; exfalso; omega) | intro _) | (apply WO.neq; exact rfl; exact rfl; all_goals first | (intro _; exfalso; omega) | intro _) | (apply WO.add; exact rfl; exact rfl; omega) | (apply WO.iav; exact rfl; exact rfl; omega) | (apply WO.ias; exact rfl; exact rfl; omega) | (apply WO.lda; exact rfl; exact fun _ => rfl; (first | omega | (simp only [List.length_set]; omega) | (simp; omega)); decide; exact rfl; case ia => infer_instance) | (apply WO.lsa; exact rfl; (first | exact rfl | assumption | exact at_new | (apply at_old; assumption) | (apply at_put; first | assumption | (simp only [put_length]; assumption))); exact fun _ => rfl; (first | omega | (simp only [List.length_set]; omega) | (simp; omega)); decide; exact rfl; case ia => infer_instance) | (apply WO.sneq; exact rfl; exact rfl; all_goals first | (intro h; exact absurd h (by decide)) | (intro h; exact absurd rfl h) | (intro h; contradiction) | intro _) | (apply WO.hlv; exact rfl; exact rfl; exact rfl) | (apply WO.hpv; exact rfl; exact rfl; exact rfl) | (apply WO.hnv; exact rfl; exact rfl; exact rfl) | (apply WO.pl; exact rfl; exact rfl) | (apply WO.pp; exact rfl; exact rfl)
    exact h1 (by simp [firstNZ]) _ _ _
  | r + 1, i, a2, lo, wr, hi, h1, h2 => by
    have e := firstNZ_drop (l := l) (i := (i : Int).toNat) (by omega)
    rw [Int.toNat_natCast] at e
    refine W.loop ?_
    unfold b20_0
    repeat' first | apply W.seq | apply SQn | apply W.region | apply WO.nil | apply W.block | apply W.ret | apply W.exit | apply W.skip | apply SQr | apply SQe | apply BQn | apply BQr | apply BQe | (apply BQo; exact rfl) | apply LQe | apply LQr | (apply W.condT; exact rfl) | (apply W.condF; exact rfl) | (apply W.cond; exact rfl; all_goals intro _) | (apply WO.lss; exact rfl; exact rfl; all_goals first | (intro _; exfalso; omega) | intro _) | (apply WO.neq; exact rfl; exact rfl; all_goals first | (intro _; exfalso; omega) | intro _) | (apply WO.add; exact rfl; exact rfl; omega) | (apply WO.iav; exact rfl; exact rfl; omega) | (apply WO.ias; exact rfl; exact rfl; omega) | (apply WO.lda; exact rfl; exact fun _ => rfl; (first | omega | (simp only [List.length_set]; omega) | (simp; omega)); decide; exact rfl; case ia => infer_instance) | (apply WO.lsa; exact rfl; (first | exact rfl | assumption | exact at_new | (apply at_old; assumption) | (apply at_put; first | assumption | (simp only [put_length]; assumption))); exact fun _ => rfl; (first | omega | (simp only [List.length_set]; omega) | (simp; omega)); decide; exact rfl; case ia => infer_instance) | (apply WO.sneq; exact rfl; exact rfl; all_goals first | (intro h; exact absurd h (by decide)) | (intro h; exact absurd rfl h) | (intro h; contradiction) | intro _) | (apply WO.hlv; exact rfl; exact rfl; exact rfl) | (apply WO.hpv; exact rfl; exact rfl; exact rfl) | (apply WO.hnv; exact rfl; exact rfl; exact rfl) | (apply WO.pl; exact rfl; exact rfl) | (apply WO.pp; exact rfl; exact rfl)
    · rename_i he
      rw [Int.toNat_natCast] at he
      rw [if_neg he] at e
      rw [e] at h2
      exact h2 _ _ _ _
    · rename_i he
      rw [Int.toNat_natCast] at he
      rw [if_pos he] at e
      rw [e] at h1 h2
      exact LQn (loop20 l hl r (i + 1) _ _ _ (by omega) h1 h2)
theorem w20 (hft : M.FT = FT) (l : List Int) (hl : l.length < 4611686018427387904) : Run M 20 [.vs (ints l) l.length cap] [] ⟨.int .i64 (firstNZ l), [], []⟩ := by
  refine run_of_W (by rw [hft]; exact ft20) (by simp) ?_
  unfold b20
  simp only [List.map_cons, List.map_nil, List.getElem?_cons_zero, List.getElem?_cons_succ, List.getElem?_nil, Option.getD_some, Option.getD_none]
  repeat' first | apply W.seq | apply SQn | apply W.region | apply WO.nil | apply W.block | apply W.ret | apply W.exit | apply W.skip | apply SQr | apply SQe | apply BQn | apply BQr | apply BQe | (apply BQo; exact rfl) | apply LQe | apply LQr | (apply W.condT; exact rfl) | (apply W.condF; exact rfl) | (apply W.cond; exact rfl; all_goals intro _) | (apply WO.pl; exact rfl; exact rfl) | (apply WO.pp; exact rfl; exact rfl)
  refine loop20 l hl l.length 0 _ _ _ (by omega) (fun h a2 lo wr => ?_) (fun a2 a5 lo wr => ?_)
  · repeat' first | apply W.seq | apply SQn | apply W.region | apply WO.nil | apply W.block | apply W.ret | apply W.exit | apply W.skip | apply SQr | apply SQe | apply BQn | apply BQr | apply BQe | (apply BQo; exact rfl) | apply LQe | apply LQr | (apply W.condT; exact rfl) | (apply W.condF; exact rfl) | (apply W.cond; exact rfl; all_goals intro _) | (apply WO.pl; exact rfl; exact rfl) | (apply WO.pp; exact rfl; exact rfl)
    exact ⟨.inr rfl, rfl, _, rfl, by rw [List.drop_zero] at h; rw [h]; rfl, rfl⟩
  · repeat' first | apply W.seq | apply SQn | apply W.region | apply WO.nil | apply W.block | apply W.ret | apply W.exit | apply W.skip | apply SQr | apply SQe | apply BQn | apply BQr | apply BQe | (apply BQo; exact rfl) | apply LQe | apply LQr | (apply W.condT; exact rfl) | (apply W.condF; exact rfl) | (apply W.cond; exact rfl; all_goals intro _) | (apply WO.pl; exact rfl; exact rfl) | (apply WO.pp; exact rfl; exact rfl)
    exact ⟨.inr rfl, rfl, _, rfl, rfl, rfl⟩

/-! slices.IndexFunc, slices.ContainsFunc. -/
def idxP (p : Int → Bool) : List Int → Nat → Int
  | [], _ => -1
  | a :: l, i => if p a then i else idxP p l (i + 1)
theorem idxP_drop {p : Int → Bool} {l : List Int} {i : Nat} (h : i < l.length) : idxP p (l.drop i) i = if p l[i]! then (i : Int) else idxP p (l.drop (i + 1)) (i + 1) := by
  rw [List.drop_eq_getElem_cons h, getElem!_pos l i h, idxP]
theorem idxP_any (p : Int → Bool) : ∀ (l : List Int) (i : Nat), decide (0 ≤ idxP p l i) = l.any p
  | [], i => by simp [idxP]
  | a :: l, i => by
    rw [idxP, List.any_cons]
    cases p a
    · simpa using idxP_any p l (i + 1)
    · simp
theorem idxP_lt (p : Int → Bool) : ∀ (l : List Int) (i : Nat), idxP p l i = -1 ∨ (0 ≤ idxP p l i ∧ idxP p l i < i + l.length)
  | [], i => .inl rfl
  | a :: l, i => by
    rw [idxP]
    split
    · right; simp only [List.length_cons]; omega
    · rcases idxP_lt p l (i + 1) with h | h
      · exact .inl h
      · right; simp only [List.length_cons]; omega

theorem loop23 (l : List Int) (p : Int → Bool) (f : AV) (H : Heap) (hl : l.length < 4611686018427387904) (hf : ∀ x, CT M f [.int .i64 x] H ⟨.bool (p x), H, []⟩) {Q : Ex → StW → Prop} : ∀ (r i : Nat) (a3 : AV) (lo : List (Nat × AV)), i + r = l.length →
    (idxP p (l.drop i) i = -1 → ∀ a3 lo, Q (.exit 0) ⟨⟨[.vs (ints l) l.length cap, f, .int .i64 0, a3, .int .i64 l.length, .int .i64 l.length], lo, H, []⟩, []⟩) →
    (∀ a3 a5 lo, Q .ret ⟨⟨[.vs (ints l) l.length cap, f, .int .i64 (idxP p (l.drop i) i), a3, .int .i64 l.length, a5], lo, H, []⟩, []⟩) →
    W M (.loop b23_0) ⟨⟨[.vs (ints l) l.length cap, f, .int .i64 0, a3, .int .i64 l.length, .int .i64 i], lo, H, []⟩, []⟩ Q
  | 0, i, a3, lo, hi, h1, h2 => by
    obtain rfl : i = l.length := by omega
    refine W.loop ?_
    unfold b23_0
    repeat' first | apply W.seq | apply SQn | apply W.region | apply WO.nil | apply W.block | apply W.ret | apply W.exit | apply W.skip | apply SQr | apply SQe | apply BQn | apply BQr | apply BQe | (apply BQo; exact rfl) | apply LQe | apply LQr | (apply W.condT; exact rfl) | (apply W.condF; exact rfl) | (apply W.cond; exact rfl; all_goals intro _) | (apply WO.lss; exact rfl; exact rfl; all_goals first | (intro _; exfalso; omega) | intro _) | (apply WO.add; exact rfl; exact rfl; omega) | (apply WO.iav; exact rfl; exact rfl; omega) | (apply WO.ias; exact rfl; exact rfl; omega) | (apply WO.lda; exact rfl; exact fun _ => rfl; (first | omega | (simp only [List.length_set]; omega) | (simp; omega)); decide; exact rfl; case ia => infer_instance) | (apply WO.lsa; exact rfl; (first | exact rfl | assumption | exact at_new | (apply at_old; assumption) | (apply at_put; first | assumption | (simp only [put_length]; assumption))); exact fun _ => rfl; (first | omega | (simp only [List.length_set]; omega) | (simp; omega)); decide; exact rfl; case ia => infer_instance) | (apply WO.clb; exact rfl; exact rfl; exact rfl; all_goals first | (intro h; exact absurd h (by decide)) | intro _) | (apply WO.cll; exact rfl; exact rfl; exact rfl) | (apply WO.hlv; exact rfl; exact rfl; exact rfl) | (apply WO.hpv; exact rfl; exact rfl; exact rfl) | (apply WO.hnv; exact rfl; exact rfl; exact rfl) | (apply WO.pl; exact rfl; exact rfl) | (apply WO.pp; exact rfl; exact rfl)
    exact h1 (by simp [idxP]) _ _
  | r + 1, i, a3, lo, hi, h1, h2 => by
    have e := idxP_drop (p := p) (l := l) (i := (i : Int).toNat) (by omega)
    have hc := hf l[((i : Int)).toNat]!
    rw [Int.toNat_natCast] at e
    refine W.loop ?_
    cases hp : p l[((i : Int)).toNat]!
    · rw [hp] at hc
      rw [Int.toNat_natCast] at hp
      rw [hp] at e
      rw [e] at h1 h2
      unfold b23_0
      repeat' first | apply W.seq | apply SQn | apply W.region | apply WO.nil | apply W.block | apply W.ret | apply W.exit | apply W.skip | apply SQr | apply SQe | apply BQn | apply BQr | apply BQe | (apply BQo; exact rfl) | apply LQe | apply LQr | (apply W.condT; exact rfl) | (apply W.condF; exact rfl) | (apply W.cond; exact rfl; all_goals intro _) | (apply WO.lss; exact rfl; exact rfl; all_goals first | (intro _; exfalso; omega) | intro _) | (apply WO.add; exact rfl; exact rfl; omega) | (apply WO.ct; exact rfl; exact rfl; first | exact hc) | (apply WO.ctn; exact rfl; exact rfl; first | exact hc) | (apply WD.ct; exact rfl; exact rfl; exact rfl; first | exact hc) | (apply WO.iav; exact rfl; exact rfl; omega) | (apply WO.ias; exact rfl; exact rfl; omega) | (apply WO.lda; exact rfl; exact fun _ => rfl; (first | omega | (simp only [List.length_set]; omega) | (simp; omega)); decide; exact rfl; case ia => infer_instance) | (apply WO.lsa; exact rfl; (first | exact rfl | assumption | exact at_new | (apply at_old; assumption) | (apply at_put; first | assumption | (simp only [put_length]; assumption))); exact fun _ => rfl; (first | omega | (simp only [List.length_set]; omega) | (simp; omega)); decide; exact rfl; case ia => infer_instance) | (apply WO.clb; exact rfl; exact rfl; exact rfl; all_goals first | (intro h; exact absurd h (by decide)) | intro _) | (apply WO.cll; exact rfl; exact rfl; exact rfl) | (apply WO.hlv; exact rfl; exact rfl; exact rfl) | (apply WO.hpv; exact rfl; exact rfl; exact rfl) | (apply WO.hnv; exact rfl; exact rfl; exact rfl) | (apply WO.pl; exact rfl; exact rfl) | (apply WO.pp; exact rfl; exact rfl)
      exact LQn (loop23 l p f H hl hf r (i + 1) _ _ (by omega) h1 h2)
    · rw [hp] at hc
      rw [Int.toNat_natCast] at hp
      rw [hp] at e
      rw [e] at h2
      unfold b23_0
      repeat' first | apply W.seq | apply SQn | apply W.region | apply WO.nil | apply W.block | apply W.ret | apply W.exit | apply W.skip | apply SQr | apply SQe | apply BQn | apply BQr | apply BQe | (apply BQo; exact rfl) | apply LQe | apply LQr | (apply W.condT; exact rfl) | (apply W.condF; exact rfl) | (apply W.cond; exact rfl; all_goals intro _) | (apply WO.lss; exact rfl; exact rfl; all_goals first | (intro _; exfalso; omega) | intro _) | (apply WO.add; exact rfl; exact rfl; omega) | (apply WO.ct; exact rfl; exact rfl; first | exact hc) | (apply WO.ctn; exact rfl; exact rfl; first | exact hc) | (apply WD.ct; exact rfl; exact rfl; exact rfl; first | exact hc) | (apply WO.iav; exact rfl; exact rfl; omega) | (apply WO.ias; exact rfl; exact rfl; omega) | (apply WO.lda; exact rfl; exact fun _ => rfl; (first | omega | (simp only [List.length_set]; omega) | (simp; omega)); decide; exact rfl; case ia => infer_instance) | (apply WO.lsa; exact rfl; (first | exact rfl | assumption | exact at_new | (apply at_old; assumption) | (apply at_put; first | assumption | (simp only [put_length]; assumption))); exact fun _ => rfl; (first | omega | (simp only [List.length_set]; omega) | (simp; omega)); decide; exact rfl; case ia => infer_instance) | (apply WO.clb; exact rfl; exact rfl; exact rfl; all_goals first | (intro h; exact absurd h (by decide)) | intro _) | (apply WO.cll; exact rfl; exact rfl; exact rfl) | (apply WO.hlv; exact rfl; exact rfl; exact rfl) | (apply WO.hpv; exact rfl; exact rfl; exact rfl) | (apply WO.hnv; exact rfl; exact rfl; exact rfl) | (apply WO.pl; exact rfl; exact rfl) | (apply WO.pp; exact rfl; exact rfl)
      exact h2 _ _ _
theorem r23 (hft : M.FT = FT) (n23 : ∀ ars h, M.ext 23 ars h = none) (l : List Int) (p : Int → Bool) (f : AV) (H : Heap) (hl : l.length < 4611686018427387904) (hf : ∀ x, CT M f [.int .i64 x] H ⟨.bool (p x), H, []⟩) :
    CT M (fnV 23) [.vs (ints l) l.length cap, f] H ⟨.int .i64 (idxP p l 0), H, []⟩ := by
  refine CT.run (n23 _ _) (run_same (by rw [hft]; exact ft23) (by simp) ?_)
  simp only [List.nil_append, List.append_nil]
  unfold b23
  simp only [List.map_cons, List.map_nil, List.getElem?_cons_zero, List.getElem?_cons_succ, List.getElem?_nil, Option.getD_some, Option.getD_none]
  repeat' first | apply W.seq | apply SQn | apply W.region | apply WO.nil | apply W.block | apply W.ret | apply W.exit | apply W.skip | apply SQr | apply SQe | apply BQn | apply BQr | apply BQe | (apply BQo; exact rfl) | apply LQe | apply LQr | (apply W.condT; exact rfl) | (apply W.condF; exact rfl) | (apply W.cond; exact rfl; all_goals intro _) | (apply WO.pl; exact rfl; exact rfl) | (apply WO.pp; exact rfl; exact rfl)
  refine loop23 l p f H hl hf l.length 0 _ _ (by omega) (fun h a3 lo => ?_) (fun a3 a5 lo => ?_)
  · repeat' first | apply W.seq | apply SQn | apply W.region | apply WO.nil | apply W.block | apply W.ret | apply W.exit | apply W.skip | apply SQr | apply SQe | apply BQn | apply BQr | apply BQe | (apply BQo; exact rfl) | apply LQe | apply LQr | (apply W.condT; exact rfl) | (apply W.condF; exact rfl) | (apply W.cond; exact rfl; all_goals intro _) | (apply WO.pl; exact rfl; exact rfl) | (apply WO.pp; exact rfl; exact rfl)
    exact ⟨.inr rfl, rfl, rfl, rfl, _, rfl, by rw [List.drop_zero] at h; rw [h]; rfl⟩
  · repeat' first | apply W.seq | apply SQn | apply W.region | apply WO.nil | apply W.block | apply W.ret | apply W.exit | apply W.skip | apply SQr | apply SQe | apply BQn | apply BQr | apply BQe | (apply BQo; exact rfl) | apply LQe | apply LQr | (apply W.condT; exact rfl) | (apply W.condF; exact rfl) | (apply W.cond; exact rfl; all_goals intro _) | (apply WO.pl; exact rfl; exact rfl) | (apply WO.pp; exact rfl; exact rfl)
    exact ⟨.inr rfl, rfl, rfl, rfl, _, rfl, rfl⟩
theorem r18 (hft : M.FT = FT) (n18 : ∀ ars h, M.ext 18 ars h = none) (n23 : ∀ ars h, M.ext 23 ars h = none) (l : List Int) (p : Int → Bool) (f : AV) (H : Heap) (hl : l.length < 4611686018427387904) (hf : ∀ x, CT M f [.int .i64 x] H ⟨.bool (p x), H, []⟩) :
    CT M (fnV 18) [.vs (ints l) l.length cap, f] H ⟨.bool (l.any p), H, []⟩ := by
  have hc := r23 (cap := cap) hft n23 l p f H hl hf
  have hb := idxP_lt p l 0
  rw [← idxP_any p l 0]
  refine CT.run (n18 _ _) (run_same (by rw [hft]; exact ft18) (by simp) ?_)
  simp only [List.nil_append, List.append_nil]
  unfold b18
  simp only [List.map_cons, List.map_nil, List.getElem?_cons_zero, List.getElem?_cons_succ, List.getElem?_nil, Option.getD_some, Option.getD_none]
  repeat' first | apply W.seq | apply SQn | apply W.region | apply WO.nil | apply W.block | apply W.ret | apply W.exit | apply W.skip | apply SQr | apply SQe | apply BQn | apply BQr | apply BQe | (apply BQo; exact rfl) | apply LQe | apply LQr | (apply W.condT; exact rfl) | (apply W.condF; exact rfl) | (apply W.cond; exact rfl; all_goals intro _) | (apply WO.geq; exact rfl; exact rfl; all_goals first | (intro _; exfalso; omega) | intro _) | (apply WO.ct; exact rfl; exact rfl; first | exact hc) | (apply WO.ctn; exact rfl; exact rfl; first | exact hc) | (apply WD.ct; exact rfl; exact rfl; exact rfl; first | exact hc) | (apply WO.clb; exact rfl; exact rfl; exact rfl; all_goals first | (intro h; exact absurd h (by decide)) | intro _) | (apply WO.cll; exact rfl; exact rfl; exact rfl) | (apply WO.pl; exact rfl; exact rfl) | (apply WO.pp; exact rfl; exact rfl)
  all_goals (rename_i h; exact ⟨.inr rfl, rfl, rfl, rfl, _, rfl, congrArg AV.bool (by simp [h])⟩)
theorem r19 (hft : M.FT = FT) (n : ∀ ars h, M.ext 19 ars h = none) (H : Heap) (x : Int) : CT M (fnV 19) [.int .i64 x] H ⟨.bool (outI x 0 999999999), H, []⟩ := by
  refine CT.run (n _ _) (run_same (by rw [hft]; exact ft19) (by simp) ?_)
  simp only [List.nil_append, List.append_nil]
  unfold b19
  simp only [List.map_cons, List.map_nil, List.getElem?_cons_zero, List.getElem?_cons_succ, List.getElem?_nil, Option.getD_some, Option.getD_none]
  repeat' first | apply W.seq | apply SQn | apply W.region | apply WO.nil | apply W.block | apply W.ret | apply W.exit | apply W.skip | apply SQr | apply SQe | apply BQn | apply BQr | apply BQe | (apply BQo; exact rfl) | apply LQe | apply LQr | (apply W.condT; exact rfl) | (apply W.condF; exact rfl) | (apply W.cond; exact rfl; all_goals intro _) | (apply WO.gT; exact rfl) | (apply WO.gF; exact rfl) | (apply WO.sT; exact rfl) | (apply WO.sF; exact rfl) | (apply WO.sU; exact rfl) | (apply WO.lss; exact rfl; exact rfl; all_goals first | (intro _; exfalso; omega) | intro _) | (apply WO.gtr; exact rfl; exact rfl; all_goals first | (intro _; exfalso; omega) | intro _) | (apply WO.pkT; exact rfl; exact rfl) | (apply WO.pkF; exact rfl; exact rfl) | (apply WO.pl; exact rfl; exact rfl) | (apply WO.pp; exact rfl; exact rfl)
  all_goals exact ⟨.inr rfl, rfl, rfl, rfl, _, rfl, congrArg AV.bool (by simp_all [outI])⟩
theorem r25 (hft : M.FT = FT) (n : ∀ ars h, M.ext 25 ars h = none) (H : Heap) (x : Int) : CT M (fnV 25) [.int .i64 x] H ⟨.bool (outI x (-1) 863999999), H, []⟩ := by
  refine CT.run (n _ _) (run_same (by rw [hft]; exact ft25) (by simp) ?_)
  simp only [List.nil_append, List.append_nil]
  unfold b25
  simp only [List.map_cons, List.map_nil, List.getElem?_cons_zero, List.getElem?_cons_succ, List.getElem?_nil, Option.getD_some, Option.getD_none]
  repeat' first | apply W.seq | apply SQn | apply W.region | apply WO.nil | apply W.block | apply W.ret | apply W.exit | apply W.skip | apply SQr | apply SQe | apply BQn | apply BQr | apply BQe | (apply BQo; exact rfl) | apply LQe | apply LQr | (apply W.condT; exact rfl) | (apply W.condF; exact rfl) | (apply W.cond; exact rfl; all_goals intro _) | (apply WO.gT; exact rfl) | (apply WO.gF; exact rfl) | (apply WO.sT; exact rfl) | (apply WO.sF; exact rfl) | (apply WO.sU; exact rfl) | (apply WO.lss; exact rfl; exact rfl; all_goals first | (intro _; exfalso; omega) | intro _) | (apply WO.gtr; exact rfl; exact rfl; all_goals first | (intro _; exfalso; omega) | intro _) | (apply WO.pkT; exact rfl; exact rfl) | (apply WO.pkF; exact rfl; exact rfl) | (apply WO.pl; exact rfl; exact rfl) | (apply WO.pp; exact rfl; exact rfl)
  all_goals exact ⟨.inr rfl, rfl, rfl, rfl, _, rfl, congrArg AV.bool (by simp_all [outI])⟩
theorem r24 (hft : M.FT = FT) (n : ∀ ars h, M.ext 24 ars h = none) (H : Heap) (bx : Nat) (t x : Int) (hb : H.at bx = some (.cells [.int .i64 t] 3)) : CT M (.fn (.func 24) [] [.ptr bx 0]) [.int .i64 x] H ⟨.bool (decide (t < x)), H, []⟩ := by
  refine CT.run (n _ _) (run_same (by rw [hft]; exact ft24) (by simp) ?_)
  simp only [List.nil_append, List.cons_append]
  unfold b24
  simp only [List.map_cons, List.map_nil, List.getElem?_cons_zero, List.getElem?_cons_succ, List.getElem?_nil, Option.getD_some, Option.getD_none]
  repeat' first | (apply WO.ldb; exact rfl; exact hb; exact rfl) | apply W.seq | apply SQn | apply W.region | apply WO.nil | apply W.block | apply W.ret | apply W.exit | apply W.skip | apply SQr | apply SQe | apply BQn | apply BQr | apply BQe | (apply BQo; exact rfl) | apply LQe | apply LQr | (apply W.condT; exact rfl) | (apply W.condF; exact rfl) | (apply W.cond; exact rfl; all_goals intro _) | (apply WO.gtr; exact rfl; exact rfl; all_goals first | (intro _; exfalso; omega) | intro _) | (apply WO.hlv; exact rfl; exact rfl; exact rfl) | (apply WO.hpv; exact rfl; exact rfl; exact rfl) | (apply WO.hnv; exact rfl; exact rfl; exact rfl) | (apply WO.pl; exact rfl; exact rfl) | (apply WO.pp; exact rfl; exact rfl)
  all_goals exact ⟨.inr rfl, rfl, rfl, rfl, _, rfl, congrArg AV.bool (by simp_all)⟩
/-- The error of samples. -/
def samplesE (l : List Int) (s t : Int) : Int := if 1000 < l.length then 5 else if l.any (fun x => outI x 0 999999999) then 3 else if outI s 1 10000 then 3 else if outI t 0 999999999 then 3 else 0
/-- The time of the first sample above, or -1. -/
def firstAt (l : List Int) (t : Int) : Int := idxP (fun x => decide (t < x)) l 0

structure C6 (M : Mach) : Prop where
  ft : M.FT = FT
  n18 : ∀ ars h, M.ext 18 ars h = none
  n19 : ∀ ars h, M.ext 19 ars h = none
  n23 : ∀ ars h, M.ext 23 ars h = none
  n24 : ∀ ars h, M.ext 24 ars h = none
  n25 : ∀ ars h, M.ext 25 ars h = none
  c21 : ∀ t e h, M.ext 21 [.bool t, .int .i64 e] h = some ⟨.int .i64 (if t then e else 0), h, []⟩
  c22 : ∀ x lo hi h, M.ext 22 [.int .i64 x, .int .i64 lo, .int .i64 hi] h = some ⟨.int .i64 (if outI x lo hi then 3 else 0), h, []⟩
  c20 : ∀ v l h, intsAt h v = some l → l.length < 4611686018427387904 → M.ext 20 [v] h = some ⟨.int .i64 (firstNZ l), h, []⟩

theorem ints_at {h : Heap} {b n : Nat} {cap : Option Nat} {l : List Int} {e : TypeId} (hb : h.at b = some (.cells (ints l) e)) (hl : l.length = n) : intsAt h (.sl b 0 n 1 cap) = some l := by
  subst hl
  have e0 : (ints l).length = l.length := (arr_length (f := fun x : Int => [AV.int .i64 x]) (esz := 1) (fun _ => rfl) l).trans (Nat.mul_one _)
  have e1 : cut (ints l) 0 (l.length * 1) = some (ints l) := by
    rw [Nat.mul_one, ← e0]; simp [cut]
  simp only [intsAt, cellsAt, hb, e1, Option.map_some, decInts_ints]
  simp

theorem samples_first (l : List Int) (s t : Int) : firstNZ [if decide (1000 < l.length) then 5 else 0, if l.any (fun x => outI x 0 999999999) then 3 else 0, if outI s 1 10000 then 3 else 0, if outI t 0 999999999 then 3 else 0] = samplesE l s t := by
  unfold samplesE
  by_cases h : 1000 < l.length
  · simp [firstNZ, h]
  · cases l.any (fun x => outI x 0 999999999) <;> cases outI s 1 10000 <;> cases outI t 0 999999999 <;> simp [firstNZ, h]

set_option maxHeartbeats 2000000 in
theorem w6 (C : C6 M) (l : List Int) (s t : Int) (hl : l.length < 1000000) : Run M 6 [.vs (ints l) l.length cap, .int .i64 s, .int .i64 t] [] ⟨.tup [.int .i64 (if samplesE l s t ≠ 0 then 0 else if firstAt l t < 0 then 0 else firstAt l t * s), .int .i64 (if samplesE l s t ≠ 0 then samplesE l s t else if firstAt l t < 0 then 7 else 0)], [], []⟩ := by
  refine run_of_W (by rw [C.ft]; exact ft6) (by simp) ?_
  have H1 : Heap.at [some (Blk.cells [.int .i64 t] 3)] 0 = some (.cells [.int .i64 t] 3) := rfl
  have q18 := r18 (cap := cap) C.ft C.n18 C.n23 l (fun x => outI x 0 999999999) (fnV 19) [some (.cells [.int .i64 t] 3)] (by omega) (fun x => r19 C.ft C.n19 _ x)
  have q23 := fun (H : Heap) (hb : H.at 0 = some (.cells [.int .i64 t] 3)) => r23 (cap := cap) C.ft C.n23 l (fun x => decide (t < x)) (.fn (.func 24) [] [.ptr 0 0]) H (by omega) (fun x => r24 C.ft C.n24 H 0 t x hb)
  have hfe := samples_first l s t
  have hbound := idxP_lt (fun x => decide (t < x)) l 0
  have hss : samplesE l s t = 0 → 1 ≤ s ∧ s ≤ 10000 := fun h => by
    unfold samplesE at h
    split at h
    · omega
    · split at h
      · omega
      · split at h
        · omega
        · rename_i hs
          simp [outI] at hs
          omega
  have q20 : ∀ (a b c d : Int), M.ext 20 [.sl 1 0 4 1 (some 4)] ([some (Blk.cells [.int .i64 t] 3)] ++ [some (.cells [.int .i64 a, .int .i64 b, .int .i64 c, .int .i64 d] 25)]) = some ⟨.int .i64 (firstNZ [a, b, c, d]), [some (Blk.cells [.int .i64 t] 3)] ++ [some (.cells [.int .i64 a, .int .i64 b, .int .i64 c, .int .i64 d] 25)], []⟩ := fun a b c d => by
    have hb : Heap.at ([some (Blk.cells [.int .i64 t] 3)] ++ [some (.cells (ints [a, b, c, d]) 25)]) 1 = some (.cells (ints [a, b, c, d]) 25) := rfl
    exact C.c20 _ [a, b, c, d] _ (ints_at hb rfl) (by simp)
  unfold firstAt
  generalize idxP (fun x => decide (t < x)) l 0 = F at *
  generalize l.any (fun x => outI x 0 999999999) = far at *
  generalize samplesE l s t = E at *
  have hmul : E = 0 → ¬ F < 0 → -9223372036854775808 ≤ F * s ∧ F * s < 9223372036854775808 := fun h0 h1 => by
    obtain ⟨g1, g2⟩ := hss h0
    have k1 : F * s ≤ 1000000 * s := Int.mul_le_mul_of_nonneg_right (by omega) (by omega)
    have k2 : 0 ≤ F * s := Int.mul_nonneg (by omega) (by omega)
    omega
  unfold b6
  simp only [List.map_cons, List.map_nil, List.getElem?_cons_zero, List.getElem?_cons_succ, List.getElem?_nil, Option.getD_some, Option.getD_none]
  by_cases hm : 1000 < l.length
  · rw [decide_eq_true hm] at hfe
    have q := q20 (if true = true then 5 else 0) (if far = true then 3 else 0) (if outI s 1 10000 = true then 3 else 0) (if outI t 0 999999999 = true then 3 else 0)
    rw [hfe] at q
    by_cases hE : E = 0
    · exfalso
      rw [hE] at hfe
      simp [firstNZ] at hfe
    · clear hfe hmul hss
      repeat' first | apply W.seq | apply SQn | apply W.region | apply WO.nil | apply W.block | apply W.ret | apply W.exit | apply W.skip | apply SQr | apply SQe | apply BQn | apply BQr | apply BQe | (apply BQo; exact rfl) | apply LQe | apply LQr | (apply W.drawro; exact rfl) | apply W.draw | apply WD.nil | (apply WD.gT; exact rfl) | (apply WD.gF; exact rfl) | (apply WD.sT; exact rfl) | (apply WD.sF; exact rfl) | (apply WD.sU; exact rfl) | (apply WD.pure1; exact rfl) | (apply WD.load1; exact rfl; exact rfl; exact rfl) | (apply WD.new1; exact rfl) | (apply WD.clb; exact rfl; exact rfl; exact rfl; exact rfl; all_goals first | (intro h; exact absurd h (by decide)) | intro _) | (apply WD.cl0; exact rfl; exact rfl; exact rfl; exact rfl) | (apply WD.cl1; exact rfl; exact rfl; exact rfl; exact rfl) | (apply W.condT; exact rfl) | (apply W.condF; exact rfl) | (apply W.cond; exact rfl; all_goals intro _) | (apply WO.lss; exact rfl; exact rfl; all_goals first | (intro _; exfalso; omega) | intro _) | (apply WO.gtr; exact rfl; exact rfl; all_goals first | (intro _; exfalso; omega) | intro _) | (apply WO.neq; exact rfl; exact rfl; all_goals first | (intro _; exfalso; omega) | intro _) | (apply WO.mul; exact rfl; exact rfl; omega) | (apply WO.ct; exact rfl; exact rfl; first | exact q18) | (apply WO.ctn; exact rfl; exact rfl; first | exact q18) | (apply WD.ct; exact rfl; exact rfl; exact rfl; first | exact q18) | (apply WO.cll; exact rfl; exact rfl; first | exact C.c21 _ _ _ | exact C.c22 _ _ _ _ | exact q) | (apply WD.cl0; exact rfl; exact rfl; exact rfl; first | exact C.c21 _ _ _ | exact C.c22 _ _ _ _ | exact q) | (apply WO.sneq; exact rfl; exact rfl; all_goals first | (intro h; exact absurd h (by decide)) | (intro h; exact absurd rfl h) | (intro h; contradiction) | intro _) | (apply WO.clb; exact rfl; exact rfl; exact rfl; all_goals first | (intro h; exact absurd h (by decide)) | intro _) | (apply WO.cll; exact rfl; exact rfl; exact rfl) | (apply WO.hlv; exact rfl; exact rfl; exact rfl) | (apply WO.hpv; exact rfl; exact rfl; exact rfl) | (apply WO.hnv; exact rfl; exact rfl; exact rfl) | (apply WO.pl; exact rfl; exact rfl) | (apply WO.pp; exact rfl; exact rfl)
      exact ⟨.inr rfl, rfl, _, rfl, by rw [if_pos hE, if_pos hE]; rfl, rfl⟩
  · rw [decide_eq_false hm] at hfe
    have q := q20 (if false = true then 5 else 0) (if far = true then 3 else 0) (if outI s 1 10000 = true then 3 else 0) (if outI t 0 999999999 = true then 3 else 0)
    rw [hfe] at q
    by_cases hE : E = 0
    · rw [hE] at q
      have hmul := hmul hE
      by_cases hF : F < 0
      · repeat' first | apply W.seq | apply SQn | apply W.region | apply WO.nil | apply W.block | apply W.ret | apply W.exit | apply W.skip | apply SQr | apply SQe | apply BQn | apply BQr | apply BQe | (apply BQo; exact rfl) | apply LQe | apply LQr | (apply W.drawro; exact rfl) | apply W.draw | apply WD.nil | (apply WD.gT; exact rfl) | (apply WD.gF; exact rfl) | (apply WD.sT; exact rfl) | (apply WD.sF; exact rfl) | (apply WD.sU; exact rfl) | (apply WD.pure1; exact rfl) | (apply WD.load1; exact rfl; exact rfl; exact rfl) | (apply WD.new1; exact rfl) | (apply WD.clb; exact rfl; exact rfl; exact rfl; exact rfl; all_goals first | (intro h; exact absurd h (by decide)) | intro _) | (apply WD.cl0; exact rfl; exact rfl; exact rfl; exact rfl) | (apply WD.cl1; exact rfl; exact rfl; exact rfl; exact rfl) | (apply W.condT; exact rfl) | (apply W.condF; exact rfl) | (apply W.cond; exact rfl; all_goals intro _) | (apply WO.lss; exact rfl; exact rfl; all_goals first | (intro _; exfalso; omega) | intro _) | (apply WO.gtr; exact rfl; exact rfl; all_goals first | (intro _; exfalso; omega) | intro _) | (apply WO.neq; exact rfl; exact rfl; all_goals first | (intro _; exfalso; omega) | intro _) | (apply WO.mul; exact rfl; exact rfl; omega) | (apply WO.ct; exact rfl; exact rfl; first | exact q18 | exact q23 _ rfl) | (apply WO.ctn; exact rfl; exact rfl; first | exact q18 | exact q23 _ rfl) | (apply WD.ct; exact rfl; exact rfl; exact rfl; first | exact q18 | exact q23 _ rfl) | (apply WO.cll; exact rfl; exact rfl; first | exact C.c21 _ _ _ | exact C.c22 _ _ _ _ | exact q) | (apply WD.cl0; exact rfl; exact rfl; exact rfl; first | exact C.c21 _ _ _ | exact C.c22 _ _ _ _ | exact q) | (apply WO.sneq; exact rfl; exact rfl; all_goals first | (intro h; exact absurd h (by decide)) | (intro h; exact absurd rfl h) | (intro h; contradiction) | intro _) | (apply WO.clb; exact rfl; exact rfl; exact rfl; all_goals first | (intro h; exact absurd h (by decide)) | intro _) | (apply WO.cll; exact rfl; exact rfl; exact rfl) | (apply WO.hlv; exact rfl; exact rfl; exact rfl) | (apply WO.hpv; exact rfl; exact rfl; exact rfl) | (apply WO.hnv; exact rfl; exact rfl; exact rfl) | (apply WO.pl; exact rfl; exact rfl) | (apply WO.pp; exact rfl; exact rfl)
        exact ⟨.inr rfl, rfl, _, rfl, by rw [if_neg (fun h => h hE), if_pos hF, if_neg (fun h => h hE), if_pos hF]; rfl, rfl⟩
      · repeat' first | (apply WO.mul; exact rfl; exact rfl; exact hmul hF) | apply W.seq | apply SQn | apply W.region | apply WO.nil | apply W.block | apply W.ret | apply W.exit | apply W.skip | apply SQr | apply SQe | apply BQn | apply BQr | apply BQe | (apply BQo; exact rfl) | apply LQe | apply LQr | (apply W.drawro; exact rfl) | apply W.draw | apply WD.nil | (apply WD.gT; exact rfl) | (apply WD.gF; exact rfl) | (apply WD.sT; exact rfl) | (apply WD.sF; exact rfl) | (apply WD.sU; exact rfl) | (apply WD.pure1; exact rfl) | (apply WD.load1; exact rfl; exact rfl; exact rfl) | (apply WD.new1; exact rfl) | (apply WD.clb; exact rfl; exact rfl; exact rfl; exact rfl; all_goals first | (intro h; exact absurd h (by decide)) | intro _) | (apply WD.cl0; exact rfl; exact rfl; exact rfl; exact rfl) | (apply WD.cl1; exact rfl; exact rfl; exact rfl; exact rfl) | (apply W.condT; exact rfl) | (apply W.condF; exact rfl) | (apply W.cond; exact rfl; all_goals intro _) | (apply WO.lss; exact rfl; exact rfl; all_goals first | (intro _; exfalso; omega) | intro _) | (apply WO.gtr; exact rfl; exact rfl; all_goals first | (intro _; exfalso; omega) | intro _) | (apply WO.neq; exact rfl; exact rfl; all_goals first | (intro _; exfalso; omega) | intro _) | (apply WO.mul; exact rfl; exact rfl; omega) | (apply WO.ct; exact rfl; exact rfl; first | exact q18 | exact q23 _ rfl) | (apply WO.ctn; exact rfl; exact rfl; first | exact q18 | exact q23 _ rfl) | (apply WD.ct; exact rfl; exact rfl; exact rfl; first | exact q18 | exact q23 _ rfl) | (apply WO.cll; exact rfl; exact rfl; first | exact C.c21 _ _ _ | exact C.c22 _ _ _ _ | exact q) | (apply WD.cl0; exact rfl; exact rfl; exact rfl; first | exact C.c21 _ _ _ | exact C.c22 _ _ _ _ | exact q) | (apply WO.sneq; exact rfl; exact rfl; all_goals first | (intro h; exact absurd h (by decide)) | (intro h; exact absurd rfl h) | (intro h; contradiction) | intro _) | (apply WO.clb; exact rfl; exact rfl; exact rfl; all_goals first | (intro h; exact absurd h (by decide)) | intro _) | (apply WO.cll; exact rfl; exact rfl; exact rfl) | (apply WO.hlv; exact rfl; exact rfl; exact rfl) | (apply WO.hpv; exact rfl; exact rfl; exact rfl) | (apply WO.hnv; exact rfl; exact rfl; exact rfl) | (apply WO.pl; exact rfl; exact rfl) | (apply WO.pp; exact rfl; exact rfl)
        exact ⟨.inr rfl, rfl, _, rfl, by rw [if_neg (fun h => h hE), if_neg hF, if_neg (fun h => h hE), if_neg hF]; rfl, rfl⟩
    · clear hfe hmul hss
      repeat' first | apply W.seq | apply SQn | apply W.region | apply WO.nil | apply W.block | apply W.ret | apply W.exit | apply W.skip | apply SQr | apply SQe | apply BQn | apply BQr | apply BQe | (apply BQo; exact rfl) | apply LQe | apply LQr | (apply W.drawro; exact rfl) | apply W.draw | apply WD.nil | (apply WD.gT; exact rfl) | (apply WD.gF; exact rfl) | (apply WD.sT; exact rfl) | (apply WD.sF; exact rfl) | (apply WD.sU; exact rfl) | (apply WD.pure1; exact rfl) | (apply WD.load1; exact rfl; exact rfl; exact rfl) | (apply WD.new1; exact rfl) | (apply WD.clb; exact rfl; exact rfl; exact rfl; exact rfl; all_goals first | (intro h; exact absurd h (by decide)) | intro _) | (apply WD.cl0; exact rfl; exact rfl; exact rfl; exact rfl) | (apply WD.cl1; exact rfl; exact rfl; exact rfl; exact rfl) | (apply W.condT; exact rfl) | (apply W.condF; exact rfl) | (apply W.cond; exact rfl; all_goals intro _) | (apply WO.lss; exact rfl; exact rfl; all_goals first | (intro _; exfalso; omega) | intro _) | (apply WO.gtr; exact rfl; exact rfl; all_goals first | (intro _; exfalso; omega) | intro _) | (apply WO.neq; exact rfl; exact rfl; all_goals first | (intro _; exfalso; omega) | intro _) | (apply WO.mul; exact rfl; exact rfl; omega) | (apply WO.ct; exact rfl; exact rfl; first | exact q18) | (apply WO.ctn; exact rfl; exact rfl; first | exact q18) | (apply WD.ct; exact rfl; exact rfl; exact rfl; first | exact q18) | (apply WO.cll; exact rfl; exact rfl; first | exact C.c21 _ _ _ | exact C.c22 _ _ _ _ | exact q) | (apply WD.cl0; exact rfl; exact rfl; exact rfl; first | exact C.c21 _ _ _ | exact C.c22 _ _ _ _ | exact q) | (apply WO.sneq; exact rfl; exact rfl; all_goals first | (intro h; exact absurd h (by decide)) | (intro h; exact absurd rfl h) | (intro h; contradiction) | intro _) | (apply WO.clb; exact rfl; exact rfl; exact rfl; all_goals first | (intro h; exact absurd h (by decide)) | intro _) | (apply WO.cll; exact rfl; exact rfl; exact rfl) | (apply WO.hlv; exact rfl; exact rfl; exact rfl) | (apply WO.hpv; exact rfl; exact rfl; exact rfl) | (apply WO.hnv; exact rfl; exact rfl; exact rfl) | (apply WO.pl; exact rfl; exact rfl) | (apply WO.pp; exact rfl; exact rfl)
      exact ⟨.inr rfl, rfl, _, rfl, by rw [if_pos hE, if_pos hE]; rfl, rfl⟩

/-! The reference. -/
theorem any_drop {p : Int → Bool} {l : List Int} {i : Nat} (h : i < l.length) : (l.drop i).any p = (p l[i]! || (l.drop (i + 1)).any p) := by
  rw [List.drop_eq_getElem_cons h, getElem!_pos l i h, List.any_cons]
theorem loop4 (c11 : ∀ x lo hi h, M.ext 11 [.int .i64 x, .int .i64 lo, .int .i64 hi] h = some ⟨.bool (outI x lo hi), h, []⟩) (l : List Int) (hl : l.length < 1000000) (a1 a2 : AV) {Q : Ex → StW → Prop} : ∀ (r i : Nat) (lo : List (Nat × AV)) (wr : List Nat), i + r = l.length →
    ((l.drop i).any (fun x => outI x 0 999999999) = false → ∀ a4 lo wr, Q (.exit 0) ⟨⟨[.vs (ints l) l.length cap, a1, a2, .int .i64 0, a4], lo, [], []⟩, wr⟩) →
    ((l.drop i).any (fun x => outI x 0 999999999) = true → ∀ a4 lo wr, Q .ret ⟨⟨[.vs (ints l) l.length cap, a1, a2, .int .i64 3, a4], lo, [], []⟩, wr⟩) →
    W M (.loop b4_0) ⟨⟨[.vs (ints l) l.length cap, a1, a2, .int .i64 0, .int .i64 i], lo, [], []⟩, wr⟩ Q
  | 0, i, lo, wr, hi, h1, h2 => by
    obtain rfl : i = l.length := by omega
    refine W.loop ?_
    unfold b4_0
    repeat' first | apply W.seq | apply SQn | apply W.region | apply WO.nil | apply W.block | apply W.ret | apply W.exit | apply W.skip | apply SQr | apply SQe | apply BQn | apply BQr | apply BQe | (apply BQo; exact rfl) | apply LQe | apply LQr | (apply W.condT; exact rfl) | (apply W.condF; exact rfl) | (apply W.cond; exact rfl; all_goals intro _) | (apply WO.lss; exact rfl; exact rfl; all_goals first | (intro _; exfalso; omega) | intro _) | (apply WO.add; exact rfl; exact rfl; omega) | (apply WO.iav; exact rfl; exact rfl; omega) | (apply WO.ias; exact rfl; exact rfl; omega) | (apply WO.lda; exact rfl; exact fun _ => rfl; (first | omega | (simp only [List.length_set]; omega) | (simp; omega)); decide; exact rfl; case ia => infer_instance) | (apply WO.lsa; exact rfl; (first | exact rfl | assumption | exact at_new | (apply at_old; assumption) | (apply at_put; first | assumption | (simp only [put_length]; assumption))); exact fun _ => rfl; (first | omega | (simp only [List.length_set]; omega) | (simp; omega)); decide; exact rfl; case ia => infer_instance) | (apply WO.clb; exact rfl; exact rfl; exact rfl; all_goals first | (intro h; exact absurd h (by decide)) | intro _) | (apply WO.cll; exact rfl; exact rfl; exact rfl) | (apply WO.hlv; exact rfl; exact rfl; exact rfl) | (apply WO.hpv; exact rfl; exact rfl; exact rfl) | (apply WO.hnv; exact rfl; exact rfl; exact rfl) | (apply WO.pl; exact rfl; exact rfl) | (apply WO.pp; exact rfl; exact rfl)
    exact h1 (by simp) _ _ _
  | r + 1, i, lo, wr, hi, h1, h2 => by
    have e := any_drop (p := fun x => outI x 0 999999999) (l := l) (i := (i : Int).toNat) (by omega)
    have q := c11 l[((i : Int)).toNat]! 0 999999999
    rw [Int.toNat_natCast] at e
    refine W.loop ?_
    cases hp : outI l[((i : Int)).toNat]! 0 999999999
    · rw [hp] at q
      rw [Int.toNat_natCast] at hp
      rw [hp, Bool.false_or] at e
      rw [e] at h1 h2
      unfold b4_0
      repeat' first | apply W.seq | apply SQn | apply W.region | apply WO.nil | apply W.block | apply W.ret | apply W.exit | apply W.skip | apply SQr | apply SQe | apply BQn | apply BQr | apply BQe | (apply BQo; exact rfl) | apply LQe | apply LQr | (apply W.condT; exact rfl) | (apply W.condF; exact rfl) | (apply W.cond; exact rfl; all_goals intro _) | (apply WO.lss; exact rfl; exact rfl; all_goals first | (intro _; exfalso; omega) | intro _) | (apply WO.add; exact rfl; exact rfl; omega) | (apply WO.cll; exact rfl; exact rfl; first | exact q _) | (apply WO.iav; exact rfl; exact rfl; omega) | (apply WO.ias; exact rfl; exact rfl; omega) | (apply WO.lda; exact rfl; exact fun _ => rfl; (first | omega | (simp only [List.length_set]; omega) | (simp; omega)); decide; exact rfl; case ia => infer_instance) | (apply WO.lsa; exact rfl; (first | exact rfl | assumption | exact at_new | (apply at_old; assumption) | (apply at_put; first | assumption | (simp only [put_length]; assumption))); exact fun _ => rfl; (first | omega | (simp only [List.length_set]; omega) | (simp; omega)); decide; exact rfl; case ia => infer_instance) | (apply WO.clb; exact rfl; exact rfl; exact rfl; all_goals first | (intro h; exact absurd h (by decide)) | intro _) | (apply WO.cll; exact rfl; exact rfl; exact rfl) | (apply WO.hlv; exact rfl; exact rfl; exact rfl) | (apply WO.hpv; exact rfl; exact rfl; exact rfl) | (apply WO.hnv; exact rfl; exact rfl; exact rfl) | (apply WO.pl; exact rfl; exact rfl) | (apply WO.pp; exact rfl; exact rfl)
      exact LQn (loop4 c11 l hl a1 a2 r (i + 1) _ _ (by omega) h1 h2)
    · rw [hp] at q
      rw [Int.toNat_natCast] at hp
      rw [hp, Bool.true_or] at e
      unfold b4_0
      repeat' first | apply W.seq | apply SQn | apply W.region | apply WO.nil | apply W.block | apply W.ret | apply W.exit | apply W.skip | apply SQr | apply SQe | apply BQn | apply BQr | apply BQe | (apply BQo; exact rfl) | apply LQe | apply LQr | (apply W.condT; exact rfl) | (apply W.condF; exact rfl) | (apply W.cond; exact rfl; all_goals intro _) | (apply WO.lss; exact rfl; exact rfl; all_goals first | (intro _; exfalso; omega) | intro _) | (apply WO.add; exact rfl; exact rfl; omega) | (apply WO.cll; exact rfl; exact rfl; first | exact q _) | (apply WO.iav; exact rfl; exact rfl; omega) | (apply WO.ias; exact rfl; exact rfl; omega) | (apply WO.lda; exact rfl; exact fun _ => rfl; (first | omega | (simp only [List.length_set]; omega) | (simp; omega)); decide; exact rfl; case ia => infer_instance) | (apply WO.lsa; exact rfl; (first | exact rfl | assumption | exact at_new | (apply at_old; assumption) | (apply at_put; first | assumption | (simp only [put_length]; assumption))); exact fun _ => rfl; (first | omega | (simp only [List.length_set]; omega) | (simp; omega)); decide; exact rfl; case ia => infer_instance) | (apply WO.clb; exact rfl; exact rfl; exact rfl; all_goals first | (intro h; exact absurd h (by decide)) | intro _) | (apply WO.cll; exact rfl; exact rfl; exact rfl) | (apply WO.hlv; exact rfl; exact rfl; exact rfl) | (apply WO.hpv; exact rfl; exact rfl; exact rfl) | (apply WO.hnv; exact rfl; exact rfl; exact rfl) | (apply WO.pl; exact rfl; exact rfl) | (apply WO.pp; exact rfl; exact rfl)
      exact h2 e _ _ _
theorem w4 (hft : M.FT = FT) (c11 : ∀ x lo hi h, M.ext 11 [.int .i64 x, .int .i64 lo, .int .i64 hi] h = some ⟨.bool (outI x lo hi), h, []⟩) (l : List Int) (s t : Int) (hl : l.length < 1000000) : Run M 4 [.vs (ints l) l.length cap, .int .i64 s, .int .i64 t] [] ⟨.int .i64 (samplesE l s t), [], []⟩ := by
  refine run_of_W (by rw [hft]; exact ft4) (by simp) ?_
  unfold b4
  simp only [List.map_cons, List.map_nil, List.getElem?_cons_zero, List.getElem?_cons_succ, List.getElem?_nil, Option.getD_some, Option.getD_none]
  by_cases hm : 1000 < l.length
  · repeat' first | apply W.seq | apply SQn | apply W.region | apply WO.nil | apply W.block | apply W.ret | apply W.exit | apply W.skip | apply SQr | apply SQe | apply BQn | apply BQr | apply BQe | (apply BQo; exact rfl) | apply LQe | apply LQr | (apply W.condT; exact rfl) | (apply W.condF; exact rfl) | (apply W.cond; exact rfl; all_goals intro _) | (apply WO.gT; exact rfl) | (apply WO.gF; exact rfl) | (apply WO.sT; exact rfl) | (apply WO.sF; exact rfl) | (apply WO.sU; exact rfl) | (apply WO.gtr; exact rfl; exact rfl; all_goals first | (intro _; exfalso; omega) | intro _) | (apply WO.pkT; exact rfl; exact rfl) | (apply WO.pkF; exact rfl; exact rfl) | (apply WO.clb; exact rfl; exact rfl; exact rfl; all_goals first | (intro h; exact absurd h (by decide)) | intro _) | (apply WO.cll; exact rfl; exact rfl; exact rfl) | (apply WO.pl; exact rfl; exact rfl) | (apply WO.pp; exact rfl; exact rfl)
    exact ⟨.inr rfl, rfl, _, rfl, by rw [samplesE, if_pos hm]; rfl, rfl⟩
  · repeat' first | apply W.seq | apply SQn | apply W.region | apply WO.nil | apply W.block | apply W.ret | apply W.exit | apply W.skip | apply SQr | apply SQe | apply BQn | apply BQr | apply BQe | (apply BQo; exact rfl) | apply LQe | apply LQr | (apply W.condT; exact rfl) | (apply W.condF; exact rfl) | (apply W.cond; exact rfl; all_goals intro _) | (apply WO.gT; exact rfl) | (apply WO.gF; exact rfl) | (apply WO.sT; exact rfl) | (apply WO.sF; exact rfl) | (apply WO.sU; exact rfl) | (apply WO.gtr; exact rfl; exact rfl; all_goals first | (intro _; exfalso; omega) | intro _) | (apply WO.pkT; exact rfl; exact rfl) | (apply WO.pkF; exact rfl; exact rfl) | (apply WO.clb; exact rfl; exact rfl; exact rfl; all_goals first | (intro h; exact absurd h (by decide)) | intro _) | (apply WO.cll; exact rfl; exact rfl; exact rfl) | (apply WO.pl; exact rfl; exact rfl) | (apply WO.pp; exact rfl; exact rfl)
    refine loop4 c11 l hl _ _ l.length 0 _ _ (by omega) (fun h a4 lo wr => ?_) (fun h a4 lo wr => ?_)
    · rw [List.drop_zero] at h
      have q1 := c11 s 1 10000
      have q2 := c11 t 0 999999999
      have e : samplesE l s t = if outI s 1 10000 then 3 else if outI t 0 999999999 then 3 else 0 := by
        rw [samplesE, if_neg hm, h, if_neg (show ¬ (false = true) by decide)]
      cases hs : outI s 1 10000 <;> cases ht : outI t 0 999999999
      all_goals
        rw [hs] at q1
        rw [ht] at q2
        rw [hs, ht] at e
        repeat' first | apply W.seq | apply SQn | apply W.region | apply WO.nil | apply W.block | apply W.ret | apply W.exit | apply W.skip | apply SQr | apply SQe | apply BQn | apply BQr | apply BQe | (apply BQo; exact rfl) | apply LQe | apply LQr | (apply W.condT; exact rfl) | (apply W.condF; exact rfl) | (apply W.cond; exact rfl; all_goals intro _) | (apply WO.gT; exact rfl) | (apply WO.gF; exact rfl) | (apply WO.sT; exact rfl) | (apply WO.sF; exact rfl) | (apply WO.sU; exact rfl) | (apply WO.gtr; exact rfl; exact rfl; all_goals first | (intro _; exfalso; omega) | intro _) | (apply WO.pkT; exact rfl; exact rfl) | (apply WO.pkF; exact rfl; exact rfl) | (apply WO.cll; exact rfl; exact rfl; first | exact q1 _ | exact q2 _) | (apply WO.clb; exact rfl; exact rfl; exact rfl; all_goals first | (intro h; exact absurd h (by decide)) | intro _) | (apply WO.cll; exact rfl; exact rfl; exact rfl) | (apply WO.pl; exact rfl; exact rfl) | (apply WO.pp; exact rfl; exact rfl)
      all_goals exact ⟨.inr rfl, rfl, _, rfl, by rw [e]; simp [tupA], rfl⟩
    · rw [List.drop_zero] at h
      repeat' first | apply W.seq | apply SQn | apply W.region | apply WO.nil | apply W.block | apply W.ret | apply W.exit | apply W.skip | apply SQr | apply SQe | apply BQn | apply BQr | apply BQe | (apply BQo; exact rfl) | apply LQe | apply LQr | (apply W.condT; exact rfl) | (apply W.condF; exact rfl) | (apply W.cond; exact rfl; all_goals intro _) | (apply WO.gT; exact rfl) | (apply WO.gF; exact rfl) | (apply WO.sT; exact rfl) | (apply WO.sF; exact rfl) | (apply WO.sU; exact rfl) | (apply WO.gtr; exact rfl; exact rfl; all_goals first | (intro _; exfalso; omega) | intro _) | (apply WO.pkT; exact rfl; exact rfl) | (apply WO.pkF; exact rfl; exact rfl) | (apply WO.clb; exact rfl; exact rfl; exact rfl; all_goals first | (intro h; exact absurd h (by decide)) | intro _) | (apply WO.cll; exact rfl; exact rfl; exact rfl) | (apply WO.pl; exact rfl; exact rfl) | (apply WO.pp; exact rfl; exact rfl)
      exact ⟨.inr rfl, rfl, _, rfl, by rw [samplesE, if_neg hm, h, if_pos rfl]; rfl, rfl⟩
/-! False starts. -/
def isFalse (x : Int) : Bool := decide (0 ≤ x) && decide (x < 1000)
theorem isF_t {x : Int} (h1 : 0 ≤ x) (h2 : x < 1000) : isFalse x = true := by simp [isFalse, h1, h2]
theorem isF_f {x : Int} (h : x < 0 ∨ 1000 ≤ x) : ¬ isFalse x = true := by simp [isFalse]; omega
def lanes : List Int → Nat → List Int
  | [], _ => []
  | x :: l, i => if isFalse x then ((i : Int) + 1) :: lanes l (i + 1) else lanes l (i + 1)
theorem lanes_drop {l : List Int} {i : Nat} (h : i < l.length) : lanes (l.drop i) i = if isFalse l[i]! then ((i : Int) + 1) :: lanes (l.drop (i + 1)) (i + 1) else lanes (l.drop (i + 1)) (i + 1) := by
  rw [List.drop_eq_getElem_cons h, getElem!_pos l i h, lanes]
def reactE (l : List Int) : Int := if 10 < l.length then 5 else if l.any (fun x => outI x (-1) 863999999) then 3 else 0
def OutS (hp : Heap) (o : AV) (acc : List Int) : Prop := (acc = [] ∧ o = .nilsl) ∨ ∃ c, acc ≠ [] ∧ o = .sl c 0 acc.length 1 none ∧ hp.at c = some (.cells (ints acc) 3)
theorem OutS.push {t : Nat} {M : Mach} {x : Int} {l : List IOper} {pe : List AV} {lo : List (Nat × AV)} {hp : Heap} {df wr : List Nat} {a b : IOpd} {o : AV} {acc : List Int} {Q : StW → Prop} (h : OutS hp o acc) (ha : (St.mk pe lo (hp ++ [some (.cells [.int .i64 x] 3)]) df).opd a = some o) (hb : (St.mk pe lo (hp ++ [some (.cells [.int .i64 x] 3)]) df).opd b = some (.sl hp.length 0 1 1 (some 1)))
    (hn : acc.length < 1000000) (hQ : ∀ (H : Heap) (w' : List Nat) o', OutS H o' (acc ++ [x]) → WO M l ⟨⟨pe, (t, o') :: lo, H, df⟩, w'⟩ Q) : WO M (⟨.l t, .append 3 1 8 a b, none⟩ :: l) ⟨⟨pe, lo, hp ++ [some (.cells [.int .i64 x] 3)], df⟩, wr⟩ Q := by
  rcases h with ⟨rfl, rfl⟩ | ⟨c, _, rfl, hc⟩
  · have hs : sliceCells (hp ++ [some (.cells [.int .i64 x] 3)]) (.sl hp.length 0 1 1 (some 1)) = some ([.int .i64 x], 1) := by
      simp [sliceCells, at_new, cut]
    refine WO.apn ha hb hs ⟨rfl, by decide, rfl⟩ ⟨by decide, by decide⟩ (hQ _ _ _ (.inr ⟨_, by simp, rfl, at_new⟩))
  · refine WO.app1 ha hb rfl hc ((arr_length (f := fun x : Int => [AV.int .i64 x]) (esz := 1) (fun _ => rfl) acc).trans (Nat.mul_one _)) (.inl rfl) hn (fun H w' h1 h2 _ => hQ H w' _ (.inr ⟨hp.length + 1, by simp, by simp, ?_⟩))
    rw [h2]
    simp [ints, arr]

theorem loop7 (l : List Int) (hl : l.length < 100000) (a3 a4 : AV) {Q : Ex → StW → Prop} : ∀ (r i : Nat) (o a6 a7 : AV) (acc : List Int) (hp : Heap) (lo : List (Nat × AV)) (wr : List Nat), i + r = l.length → acc.length ≤ i → OutS hp o acc →
    (∀ o hp a6 a7 lo wr, OutS hp o (acc ++ lanes (l.drop i) i) → Q (.exit 0) ⟨⟨[.vs (ints l) l.length cap, .nilsl, .int .i64 0, a3, a4, o, a6, a7, .vs (ints l) l.length cap, .int .i64 l.length, .int .i64 l.length], lo, hp, []⟩, wr⟩) →
    W M (.loop b7_0) ⟨⟨[.vs (ints l) l.length cap, .nilsl, .int .i64 0, a3, a4, o, a6, a7, .vs (ints l) l.length cap, .int .i64 l.length, .int .i64 i], lo, hp, []⟩, wr⟩ Q := by
  intro r
  induction r with
  | zero =>
    intro i o a6 a7 acc hp lo wr hi ha ho hQ
    obtain rfl : i = l.length := by omega
    refine W.loop ?_
    unfold b7_0
    repeat' first | apply W.seq | apply SQn | apply W.region | apply WO.nil | apply W.block | apply W.ret | apply W.exit | apply W.skip | apply SQr | apply SQe | apply BQn | apply BQr | apply BQe | (apply BQo; exact rfl) | apply LQe | apply LQr | (apply W.condT; exact rfl) | (apply W.condF; exact rfl) | (apply W.cond; exact rfl; all_goals intro _) | (apply WO.gT; exact rfl) | (apply WO.gF; exact rfl) | (apply WO.sT; exact rfl) | (apply WO.sF; exact rfl) | (apply WO.sU; exact rfl) | (apply WO.lss; exact rfl; exact rfl; all_goals first | (intro _; exfalso; omega) | intro _) | (apply WO.geq; exact rfl; exact rfl; all_goals first | (intro _; exfalso; omega) | intro _) | (apply WO.pkT; exact rfl; exact rfl) | (apply WO.pkF; exact rfl; exact rfl) | (apply WO.add; exact rfl; exact rfl; omega) | (apply WO.iav; exact rfl; exact rfl; omega) | (apply WO.ias; exact rfl; exact rfl; omega) | (apply WO.lda; exact rfl; exact fun _ => rfl; (first | omega | (simp only [List.length_set]; omega) | (simp; omega)); decide; exact rfl; case ia => infer_instance) | (apply WO.lsa; exact rfl; (first | exact rfl | assumption | exact at_new | (apply at_old; assumption) | (apply at_put; first | assumption | (simp only [put_length]; assumption))); exact fun _ => rfl; (first | omega | (simp only [List.length_set]; omega) | (simp; omega)); decide; exact rfl; case ia => infer_instance) | (apply WO.hlv; exact rfl; exact rfl; exact rfl) | (apply WO.hpv; exact rfl; exact rfl; exact rfl) | (apply WO.hnv; exact rfl; exact rfl; exact rfl) | (apply WO.pl; exact rfl; exact rfl) | (apply WO.pp; exact rfl; exact rfl)
    exact hQ _ _ _ _ _ _ (by simpa [lanes] using ho)
  | succ r ih =>
    intro i o a6 a7 acc hp lo wr hi ha ho hQ
    have e := lanes_drop (l := l) (i := (i : Int).toNat) (by omega)
    rw [Int.toNat_natCast] at e
    have hlen : acc.length < 1000000 := by omega
    refine W.loop ?_
    unfold b7_0
    repeat' first | apply W.seq | apply SQn | apply W.region | apply WO.nil | apply W.block | apply W.ret | apply W.exit | apply W.skip | apply SQr | apply SQe | apply BQn | apply BQr | apply BQe | (apply BQo; exact rfl) | apply LQe | apply LQr | (apply W.condT; exact rfl) | (apply W.condF; exact rfl) | (apply W.cond; exact rfl; all_goals intro _) | (apply WO.gT; exact rfl) | (apply WO.gF; exact rfl) | (apply WO.sT; exact rfl) | (apply WO.sF; exact rfl) | (apply WO.sU; exact rfl) | (apply WO.lss; exact rfl; exact rfl; all_goals first | (intro _; exfalso; omega) | intro _) | (apply WO.geq; exact rfl; exact rfl; all_goals first | (intro _; exfalso; omega) | intro _) | (apply WO.pkT; exact rfl; exact rfl) | (apply WO.pkF; exact rfl; exact rfl) | (apply WO.add; exact rfl; exact rfl; omega) | (refine OutS.push ho rfl rfl hlen (fun H w' o' ho' => ?_)) | (apply WO.iav; exact rfl; exact rfl; omega) | (apply WO.ias; exact rfl; exact rfl; omega) | (apply WO.lda; exact rfl; exact fun _ => rfl; (first | omega | (simp only [List.length_set]; omega) | (simp; omega)); decide; exact rfl; case ia => infer_instance) | (apply WO.lsa; exact rfl; (first | exact rfl | assumption | exact at_new | (apply at_old; assumption) | (apply at_put; first | assumption | (simp only [put_length]; assumption))); exact fun _ => rfl; (first | omega | (simp only [List.length_set]; omega) | (simp; omega)); decide; exact rfl; case ia => infer_instance) | (apply WO.hlv; exact rfl; exact rfl; exact rfl) | (apply WO.hpv; exact rfl; exact rfl; exact rfl) | (apply WO.hnv; exact rfl; exact rfl; exact rfl) | (apply WO.pl; exact rfl; exact rfl) | (apply WO.pp; exact rfl; exact rfl)
    · rename_i g1 g2
      rw [Int.toNat_natCast] at g1 g2
      rw [if_pos (isF_t g1 g2)] at e
      exact LQn (ih (i + 1) o' _ _ (acc ++ [(i : Int) + 1]) H _ _ (by omega) (by simp; omega) ho' (fun o hp a6 a7 lo wr h => hQ o hp a6 a7 lo wr (by rw [e]; simpa using h)))
    · rename_i g1 g2
      rw [Int.toNat_natCast] at g1 g2
      rw [if_neg (isF_f (.inr g2))] at e
      exact LQn (ih (i + 1) o _ _ acc hp _ _ (by omega) (by omega) ho (fun o hp a6 a7 lo wr h => hQ o hp a6 a7 lo wr (by rw [e]; exact h)))
    · rename_i g1
      rw [Int.toNat_natCast] at g1
      rw [if_neg (isF_f (.inl g1))] at e
      exact LQn (ih (i + 1) o _ _ acc hp _ _ (by omega) (by omega) ho (fun o hp a6 a7 lo wr h => hQ o hp a6 a7 lo wr (by rw [e]; exact h)))

theorem react_first (l : List Int) : firstNZ [if decide (10 < l.length) then 5 else 0, if l.any (fun x => outI x (-1) 863999999) then 3 else 0] = reactE l := by
  unfold reactE
  by_cases h : 10 < l.length
  · simp [firstNZ, h]
  · cases l.any (fun x => outI x (-1) 863999999) <;> simp [firstNZ, h]
theorem w7e (C : C6 M) (l : List Int) (hl : l.length < 100000) (hE : reactE l ≠ 0) : Run M 7 [.vs (ints l) l.length cap] [] ⟨.tup [.nilsl, .int .i64 (reactE l)], [], []⟩ := by
  have q18 := fun H => r18 (cap := cap) C.ft C.n18 C.n23 l (fun x => outI x (-1) 863999999) (fnV 25) H (by omega) (fun x => r25 C.ft C.n25 _ x)
  have hfe := react_first l
  have q20 : ∀ (a b : Int), M.ext 20 [.sl 0 0 2 1 (some 2)] ([some (.cells [.int .i64 a, .int .i64 b] 25)]) = some ⟨.int .i64 (firstNZ [a, b]), [some (.cells [.int .i64 a, .int .i64 b] 25)], []⟩ := fun a b => by
    have hb : Heap.at ([some (.cells (ints [a, b]) 25)]) 0 = some (.cells (ints [a, b]) 25) := rfl
    exact C.c20 _ [a, b] _ (ints_at hb rfl) (by simp)
  refine run_of_W (by rw [C.ft]; exact ft7) (by simp) ?_
  generalize l.any (fun x => outI x (-1) 863999999) = far at *
  generalize reactE l = E at *
  unfold b7
  simp only [List.map_cons, List.map_nil, List.getElem?_cons_zero, List.getElem?_cons_succ, List.getElem?_nil, Option.getD_some, Option.getD_none]
  by_cases hm : 10 < l.length
  · rw [decide_eq_true hm] at hfe
    have q := q20 (if true = true then 5 else 0) (if far = true then 3 else 0)
    rw [hfe] at q
    repeat' first | apply W.seq | apply SQn | apply W.region | apply WO.nil | apply W.block | apply W.ret | apply W.exit | apply W.skip | apply SQr | apply SQe | apply BQn | apply BQr | apply BQe | (apply BQo; exact rfl) | apply LQe | apply LQr | (apply W.condT; exact rfl) | (apply W.condF; exact rfl) | (apply W.cond; exact rfl; all_goals intro _) | (apply WO.gtr; exact rfl; exact rfl; all_goals first | (intro _; exfalso; omega) | intro _) | (apply WO.neq; exact rfl; exact rfl; all_goals first | (intro _; exfalso; omega) | intro _) | (apply WO.ct; exact rfl; exact rfl; first | exact q18 _) | (apply WO.ctn; exact rfl; exact rfl; first | exact q18 _) | (apply WD.ct; exact rfl; exact rfl; exact rfl; first | exact q18 _) | (apply WO.cll; exact rfl; exact rfl; first | exact C.c21 _ _ _ | exact q) | (apply WO.sneq; exact rfl; exact rfl; all_goals first | (intro h; exact absurd h (by decide)) | (intro h; exact absurd rfl h) | (intro h; contradiction) | intro _) | (apply WO.clb; exact rfl; exact rfl; exact rfl; all_goals first | (intro h; exact absurd h (by decide)) | intro _) | (apply WO.cll; exact rfl; exact rfl; exact rfl) | (apply WO.hlv; exact rfl; exact rfl; exact rfl) | (apply WO.hpv; exact rfl; exact rfl; exact rfl) | (apply WO.hnv; exact rfl; exact rfl; exact rfl) | (apply WO.pl; exact rfl; exact rfl) | (apply WO.pp; exact rfl; exact rfl)
    exact ⟨.inr rfl, rfl, _, rfl, rfl, rfl⟩
  · rw [decide_eq_false hm] at hfe
    have q := q20 (if false = true then 5 else 0) (if far = true then 3 else 0)
    rw [hfe] at q
    repeat' first | apply W.seq | apply SQn | apply W.region | apply WO.nil | apply W.block | apply W.ret | apply W.exit | apply W.skip | apply SQr | apply SQe | apply BQn | apply BQr | apply BQe | (apply BQo; exact rfl) | apply LQe | apply LQr | (apply W.condT; exact rfl) | (apply W.condF; exact rfl) | (apply W.cond; exact rfl; all_goals intro _) | (apply WO.gtr; exact rfl; exact rfl; all_goals first | (intro _; exfalso; omega) | intro _) | (apply WO.neq; exact rfl; exact rfl; all_goals first | (intro _; exfalso; omega) | intro _) | (apply WO.ct; exact rfl; exact rfl; first | exact q18 _) | (apply WO.ctn; exact rfl; exact rfl; first | exact q18 _) | (apply WD.ct; exact rfl; exact rfl; exact rfl; first | exact q18 _) | (apply WO.cll; exact rfl; exact rfl; first | exact C.c21 _ _ _ | exact q) | (apply WO.sneq; exact rfl; exact rfl; all_goals first | (intro h; exact absurd h (by decide)) | (intro h; exact absurd rfl h) | (intro h; contradiction) | intro _) | (apply WO.clb; exact rfl; exact rfl; exact rfl; all_goals first | (intro h; exact absurd h (by decide)) | intro _) | (apply WO.cll; exact rfl; exact rfl; exact rfl) | (apply WO.hlv; exact rfl; exact rfl; exact rfl) | (apply WO.hpv; exact rfl; exact rfl; exact rfl) | (apply WO.hnv; exact rfl; exact rfl; exact rfl) | (apply WO.pl; exact rfl; exact rfl) | (apply WO.pp; exact rfl; exact rfl)
    exact ⟨.inr rfl, rfl, _, rfl, rfl, rfl⟩
theorem out_end2 {hp : Heap} {o : AV} {acc : List Int} (h : OutS hp o acc) : OutS (if (AV.tup [o, .int .i64 0]).top ≤ 0 then [] else hp) o acc := by
  rcases h with ⟨h1, rfl⟩ | ⟨c, h0, rfl, h2⟩
  · exact .inl ⟨h1, rfl⟩
  · refine .inr ⟨c, h0, rfl, ?_⟩
    rw [if_neg (by simp [AV.top, topL])]
    exact h2
theorem w7 (C : C6 M) (l : List Int) (hl : l.length < 100000) (hE : reactE l = 0) : ∃ v hh, OutS hh v (lanes l 0) ∧ Run M 7 [.vs (ints l) l.length cap] [] ⟨.tup [v, .int .i64 0], hh, []⟩ := by
  have q18 := fun H => r18 (cap := cap) C.ft C.n18 C.n23 l (fun x => outI x (-1) 863999999) (fnV 25) H (by omega) (fun x => r25 C.ft C.n25 _ x)
  have hfe := react_first l
  rw [hE] at hfe
  have hm : ¬ 10 < l.length := fun h => by rw [reactE, if_pos h] at hE; exact absurd hE (by decide)
  rw [decide_eq_false hm] at hfe
  have q20 : ∀ (a b : Int), M.ext 20 [.sl 0 0 2 1 (some 2)] ([some (.cells [.int .i64 a, .int .i64 b] 25)]) = some ⟨.int .i64 (firstNZ [a, b]), [some (.cells [.int .i64 a, .int .i64 b] 25)], []⟩ := fun a b => by
    have hb : Heap.at ([some (.cells (ints [a, b]) 25)]) 0 = some (.cells (ints [a, b]) 25) := rfl
    exact C.c20 _ [a, b] _ (ints_at hb rfl) (by simp)
  obtain ⟨v, hh, ⟨o, rfl, ho⟩, hr⟩ := run_ofE (M := M) (f := 7) (ars := [.vs (ints l) l.length cap]) (P := fun v hh => ∃ o, v = .tup [o, .int .i64 0] ∧ OutS hh o (lanes l 0)) (by rw [C.ft]; exact ft7) (by simp) (by
    generalize l.any (fun x => outI x (-1) 863999999) = far at *
    have q := q20 (if false = true then 5 else 0) (if far = true then 3 else 0)
    rw [hfe] at q
    unfold b7
    simp only [List.map_cons, List.map_nil, List.getElem?_cons_zero, List.getElem?_cons_succ, List.getElem?_nil, Option.getD_some, Option.getD_none]
    repeat' first | apply W.seq | apply SQn | apply W.region | apply WO.nil | apply W.block | apply W.ret | apply W.exit | apply W.skip | apply SQr | apply SQe | apply BQn | apply BQr | apply BQe | (apply BQo; exact rfl) | apply LQe | apply LQr | (apply W.condT; exact rfl) | (apply W.condF; exact rfl) | (apply W.cond; exact rfl; all_goals intro _) | (apply WO.gtr; exact rfl; exact rfl; all_goals first | (intro _; exfalso; omega) | intro _) | (apply WO.neq; exact rfl; exact rfl; all_goals first | (intro _; exfalso; omega) | intro _) | (apply WO.ct; exact rfl; exact rfl; first | exact q18 _) | (apply WO.ctn; exact rfl; exact rfl; first | exact q18 _) | (apply WD.ct; exact rfl; exact rfl; exact rfl; first | exact q18 _) | (apply WO.cll; exact rfl; exact rfl; first | exact C.c21 _ _ _ | exact q) | (apply WO.sneq; exact rfl; exact rfl; all_goals first | (intro h; exact absurd h (by decide)) | (intro h; exact absurd rfl h) | (intro h; contradiction) | intro _) | (apply WO.clb; exact rfl; exact rfl; exact rfl; all_goals first | (intro h; exact absurd h (by decide)) | intro _) | (apply WO.cll; exact rfl; exact rfl; exact rfl) | (apply WO.hlv; exact rfl; exact rfl; exact rfl) | (apply WO.hpv; exact rfl; exact rfl; exact rfl) | (apply WO.hnv; exact rfl; exact rfl; exact rfl) | (apply WO.pl; exact rfl; exact rfl) | (apply WO.pp; exact rfl; exact rfl)
    refine loop7 l hl _ _ l.length 0 _ _ _ [] _ _ _ (by omega) (Nat.le_refl _) (.inl ⟨rfl, rfl⟩) (fun o hp a6 a7 lo wr ho => ?_)
    rw [List.nil_append, List.drop_zero] at ho
    repeat' first | apply W.seq | apply SQn | apply W.region | apply WO.nil | apply W.block | apply W.ret | apply W.exit | apply W.skip | apply SQr | apply SQe | apply BQn | apply BQr | apply BQe | (apply BQo; exact rfl) | apply LQe | apply LQr | (apply W.condT; exact rfl) | (apply W.condF; exact rfl) | (apply W.cond; exact rfl; all_goals intro _) | (apply WO.gtr; exact rfl; exact rfl; all_goals first | (intro _; exfalso; omega) | intro _) | (apply WO.neq; exact rfl; exact rfl; all_goals first | (intro _; exfalso; omega) | intro _) | (apply WO.sneq; exact rfl; exact rfl; all_goals first | (intro h; exact absurd h (by decide)) | (intro h; exact absurd rfl h) | (intro h; contradiction) | intro _) | (apply WO.clb; exact rfl; exact rfl; exact rfl; all_goals first | (intro h; exact absurd h (by decide)) | intro _) | (apply WO.cll; exact rfl; exact rfl; exact rfl) | (apply WO.hlv; exact rfl; exact rfl; exact rfl) | (apply WO.hpv; exact rfl; exact rfl; exact rfl) | (apply WO.hnv; exact rfl; exact rfl; exact rfl) | (apply WO.pl; exact rfl; exact rfl) | (apply WO.pp; exact rfl; exact rfl)
    exact ⟨.inr rfl, rfl, _, rfl, o, rfl, out_end2 ho⟩)
  exact ⟨o, hh, ho, hr⟩
theorem take_snoc {l : List Int} {i : Nat} (h : i < l.length) : l.take (i + 1) = l.take i ++ [l[i]!] := by
  rw [List.take_succ_eq_append_getElem h, getElem!_pos l i h]
theorem loop9 (l m : List Int) (hlm : l.length = m.length) (hl : l.length < 4611686018427387904) (c1 c2 : Option Nat) {Q : Ex → StW → Prop} (h1 : l = m → ∀ lo wr, Q (.exit 0) ⟨⟨[.vs (ints l) l.length c1, .vs (ints m) m.length c2, .bool false, .int .i64 l.length], lo, [], []⟩, wr⟩)
    (h2 : l ≠ m → ∀ i lo wr, Q .ret ⟨⟨[.vs (ints l) l.length c1, .vs (ints m) m.length c2, .bool false, i], lo, [], []⟩, wr⟩) : ∀ (r i : Nat), i + r = l.length → l.take i = m.take i → ∀ (lo : List (Nat × AV)) (wr : List Nat),
    W M (.loop b9_0) ⟨⟨[.vs (ints l) l.length c1, .vs (ints m) m.length c2, .bool false, .int .i64 i], lo, [], []⟩, wr⟩ Q
  | 0, i, hi, he, lo, wr => by
    obtain rfl : i = l.length := by omega
    rw [List.take_length, hlm, List.take_length] at he
    refine W.loop ?_
    unfold b9_0
    repeat' first | apply W.seq | apply SQn | apply W.region | apply WO.nil | apply W.block | apply W.ret | apply W.exit | apply W.skip | apply SQr | apply SQe | apply BQn | apply BQr | apply BQe | (apply BQo; exact rfl) | apply LQe | apply LQr | (apply W.drawro; exact rfl) | apply W.draw | apply WD.nil | (apply WD.gT; exact rfl) | (apply WD.gF; exact rfl) | (apply WD.sT; exact rfl) | (apply WD.sF; exact rfl) | (apply WD.sU; exact rfl) | (apply WD.pure1; exact rfl) | (apply WD.load1; exact rfl; exact rfl; exact rfl) | (apply W.condT; exact rfl) | (apply W.condF; exact rfl) | (apply W.cond; exact rfl; all_goals intro _) | (apply WO.lss; exact rfl; exact rfl; all_goals first | (intro _; exfalso; omega) | intro _) | (apply WO.neq; exact rfl; exact rfl; all_goals first | (intro _; exfalso; omega) | intro _) | (apply WO.add; exact rfl; exact rfl; omega) | (apply WO.iav; exact rfl; exact rfl; omega) | (apply WO.ias; exact rfl; exact rfl; omega) | (apply WO.lda; exact rfl; exact fun _ => rfl; (first | omega | (simp only [List.length_set]; omega) | (simp; omega)); decide; exact rfl; case ia => infer_instance) | (apply WO.lsa; exact rfl; (first | exact rfl | assumption | exact at_new | (apply at_old; assumption) | (apply at_put; first | assumption | (simp only [put_length]; assumption))); exact fun _ => rfl; (first | omega | (simp only [List.length_set]; omega) | (simp; omega)); decide; exact rfl; case ia => infer_instance) | (apply WO.sneq; exact rfl; exact rfl; all_goals first | (intro h; exact absurd h (by decide)) | (intro h; exact absurd rfl h) | (intro h; contradiction) | intro _) | (apply WO.hlv; exact rfl; exact rfl; exact rfl) | (apply WO.hpv; exact rfl; exact rfl; exact rfl) | (apply WO.hnv; exact rfl; exact rfl; exact rfl) | (apply WO.pl; exact rfl; exact rfl) | (apply WO.pp; exact rfl; exact rfl)
    · exact h1 he _ _
  | r + 1, i, hi, he, lo, wr => by
    have ei : ((i : Int)).toNat = i := by omega
    have b1 : ((i : Int)).toNat < l.length := by omega
    have b2 : ((i : Int)).toNat < m.length := by omega
    refine W.loop ?_
    unfold b9_0
    repeat' first | apply W.seq | apply SQn | apply W.region | apply WO.nil | apply W.block | apply W.ret | apply W.exit | apply W.skip | apply SQr | apply SQe | apply BQn | apply BQr | apply BQe | (apply BQo; exact rfl) | apply LQe | apply LQr | (apply W.drawro; exact rfl) | apply W.draw | apply WD.nil | (apply WD.gT; exact rfl) | (apply WD.gF; exact rfl) | (apply WD.sT; exact rfl) | (apply WD.sF; exact rfl) | (apply WD.sU; exact rfl) | (apply WD.pure1; exact rfl) | (apply WD.load1; exact rfl; exact rfl; exact rfl) | (apply W.condT; exact rfl) | (apply W.condF; exact rfl) | (apply W.cond; exact rfl; all_goals intro _) | (apply WO.lss; exact rfl; exact rfl; all_goals first | (intro _; exfalso; omega) | intro _) | (apply WO.neq; exact rfl; exact rfl; all_goals first | (intro _; exfalso; omega) | intro _) | (apply WO.add; exact rfl; exact rfl; omega) | (apply WO.iav; exact rfl; exact rfl; omega) | (apply WO.ias; exact rfl; exact rfl; omega) | (apply WO.lda; exact rfl; exact fun _ => rfl; (first | omega | (simp only [List.length_set]; omega) | (simp; omega)); decide; exact rfl; case ia => infer_instance) | (apply WO.lsa; exact rfl; (first | exact rfl | assumption | exact at_new | (apply at_old; assumption) | (apply at_put; first | assumption | (simp only [put_length]; assumption))); exact fun _ => rfl; (first | omega | (simp only [List.length_set]; omega) | (simp; omega)); decide; exact rfl; case ia => infer_instance) | (apply WO.sneq; exact rfl; exact rfl; all_goals first | (intro h; exact absurd h (by decide)) | (intro h; exact absurd rfl h) | (intro h; contradiction) | intro _) | (apply WO.hlv; exact rfl; exact rfl; exact rfl) | (apply WO.hpv; exact rfl; exact rfl; exact rfl) | (apply WO.hnv; exact rfl; exact rfl; exact rfl) | (apply WO.pl; exact rfl; exact rfl) | (apply WO.pp; exact rfl; exact rfl)
    · rename_i hne
      exact h2 (fun e => hne (by rw [e])) _ _ _
    · rename_i heq
      refine LQn (loop9 l m hlm hl c1 c2 h1 h2 r (i + 1) (by omega) ?_ _ _)
      rw [take_snoc (by omega), take_snoc (by omega), he]
      rw [ei] at heq
      rw [heq]
theorem w9 (hft : M.FT = FT) (l m : List Int) (c1 c2 : Option Nat) (hl : l.length < 4611686018427387904) : Run M 9 [.vs (ints l) l.length c1, .vs (ints m) m.length c2] [] ⟨.bool (decide (l = m)), [], []⟩ := by
  refine run_of_W (by rw [hft]; exact ft9) (by simp) ?_
  unfold b9
  by_cases hlm : l.length = m.length
  · repeat' first | apply W.seq | apply SQn | apply W.region | apply WO.nil | apply W.block | apply W.ret | apply W.exit | apply W.skip | apply SQr | apply SQe | apply BQn | apply BQr | apply BQe | (apply BQo; exact rfl) | apply LQe | apply LQr | (apply W.condT; exact rfl) | (apply W.condF; exact rfl) | (apply W.cond; exact rfl; all_goals intro _) | (apply WO.neq; exact rfl; exact rfl; all_goals first | (intro _; exfalso; omega) | intro _) | (apply WO.sneq; exact rfl; exact rfl; all_goals first | (intro h; exact absurd h (by decide)) | (intro h; exact absurd rfl h) | (intro h; contradiction) | intro _) | (apply WO.pl; exact rfl; exact rfl) | (apply WO.pp; exact rfl; exact rfl)
    refine loop9 l m hlm hl c1 c2 (fun e lo wr => ?_) (fun e i lo wr => ?_) l.length 0 (by omega) rfl _ _
    · repeat' first | apply W.seq | apply SQn | apply W.region | apply WO.nil | apply W.block | apply W.ret | apply W.exit | apply W.skip | apply SQr | apply SQe | apply BQn | apply BQr | apply BQe | (apply BQo; exact rfl) | apply LQe | apply LQr | (apply W.condT; exact rfl) | (apply W.condF; exact rfl) | (apply W.cond; exact rfl; all_goals intro _) | (apply WO.neq; exact rfl; exact rfl; all_goals first | (intro _; exfalso; omega) | intro _) | (apply WO.sneq; exact rfl; exact rfl; all_goals first | (intro h; exact absurd h (by decide)) | (intro h; exact absurd rfl h) | (intro h; contradiction) | intro _) | (apply WO.pl; exact rfl; exact rfl) | (apply WO.pp; exact rfl; exact rfl)
      exact ⟨.inr rfl, rfl, _, rfl, by rw [decide_eq_true e]; rfl, rfl⟩
    · repeat' first | apply W.seq | apply SQn | apply W.region | apply WO.nil | apply W.block | apply W.ret | apply W.exit | apply W.skip | apply SQr | apply SQe | apply BQn | apply BQr | apply BQe | (apply BQo; exact rfl) | apply LQe | apply LQr | (apply W.condT; exact rfl) | (apply W.condF; exact rfl) | (apply W.cond; exact rfl; all_goals intro _) | (apply WO.neq; exact rfl; exact rfl; all_goals first | (intro _; exfalso; omega) | intro _) | (apply WO.sneq; exact rfl; exact rfl; all_goals first | (intro h; exact absurd h (by decide)) | (intro h; exact absurd rfl h) | (intro h; contradiction) | intro _) | (apply WO.pl; exact rfl; exact rfl) | (apply WO.pp; exact rfl; exact rfl)
      exact ⟨.inr rfl, rfl, _, rfl, by rw [decide_eq_false e]; rfl, rfl⟩
  · repeat' first | apply W.seq | apply SQn | apply W.region | apply WO.nil | apply W.block | apply W.ret | apply W.exit | apply W.skip | apply SQr | apply SQe | apply BQn | apply BQr | apply BQe | (apply BQo; exact rfl) | apply LQe | apply LQr | (apply W.condT; exact rfl) | (apply W.condF; exact rfl) | (apply W.cond; exact rfl; all_goals intro _) | (apply WO.neq; exact rfl; exact rfl; all_goals first | (intro _; exfalso; omega) | intro _) | (apply WO.sneq; exact rfl; exact rfl; all_goals first | (intro h; exact absurd h (by decide)) | (intro h; exact absurd rfl h) | (intro h; contradiction) | intro _) | (apply WO.pl; exact rfl; exact rfl) | (apply WO.pp; exact rfl; exact rfl)
    exact ⟨.inr rfl, rfl, _, rfl, by rw [decide_eq_false (fun e => hlm (by rw [e]))]; rfl, rfl⟩

end Go.Ab.T5


/-
  Own work: marks at the top: the contracts of their checks and of their order.
-/
namespace Go.Ab.T5.A
variable {inv : InvF} {F : FuncId → Option IFunc}

abbrev mk0 (T : List (Nat × Spec)) (inv : InvF) (F : FuncId → Option IFunc) : Mach := ⟨extS T, inv, F⟩

theorem ext_hd {g : Nat} {sp : Spec} {T : List (Nat × Spec)} {xs : List AV} {h : Heap} : extS ((g, sp) :: T) g xs h = sp xs h := by simp [extS]

def firstNZ : List Int → Int
  | [] => 0
  | e :: r => if e = 0 then firstNZ r else e

def specWhen : Spec := fun
  | [.bool t, .int .i64 e], h => some ⟨.int .i64 (if t then e else 0), h, []⟩
  | _, _ => none
def specFirst : Spec := fun
  | [v], h => match intsAt h v with
    | some l => if l.length < 4611686018427387904 then some ⟨.int .i64 (firstNZ l), h, []⟩ else none
    | none => none
  | _, _ => none

theorem w28 {T : List (Nat × Spec)} (hft : F = FT) (t : Bool) (e : Int) : Run (mk0 T inv F) 28 [.bool t, .int .i64 e] [] ⟨.int .i64 (if t then e else 0), [], []⟩ := by
  refine run_of_W (show F 28 = _ from by rw [hft]; exact ft28) (by simp) ?_
  unfold b28
  simp only [List.map_cons, List.map_nil, List.getElem?_cons_zero, List.getElem?_cons_succ, List.getElem?_nil, Option.getD_some, Option.getD_none]
  cases t
  all_goals
    repeat' first | apply W.seq | apply SQn | apply W.region | apply WO.nil | apply W.block | apply W.ret | apply W.exit | apply W.skip | apply SQr | apply SQe | apply BQn | apply BQr | apply BQe | (apply BQo; exact rfl) | apply LQe | apply LQr | (apply W.condT; exact rfl) | (apply W.condF; exact rfl) | (apply W.cond; exact rfl; all_goals intro _) | (apply WO.pl; exact rfl; exact rfl) | (apply WO.pp; exact rfl; exact rfl)
  all_goals exact ⟨.inr rfl, rfl, _, rfl, rfl, rfl⟩

theorem firstNZ_drop {l : List Int} {i : Nat} (h : i < l.length) : firstNZ (l.drop i) = if l[i]! = 0 then firstNZ (l.drop (i + 1)) else l[i]! := by
  rw [List.drop_eq_getElem_cons h, getElem!_pos l i h, firstNZ]

theorem body26 {T : List (Nat × Spec)} (l : List Int) (cap : Option Nat) (a0 : AV) (hl : l.length < 4611686018427387904) (hp : Heap) (df : List Nat) {Q : Ex → StW → Prop} : ∀ (r i : Nat), i + r = l.length → ∀ (a1 a2 : AV) (lo : List (Nat × AV)) (wr : List Nat),
    (firstNZ (l.drop i) = 0 → ∀ a2 lo wr, Q (.exit 0) ⟨⟨[a0, a1, a2, .vs (ints l) l.length cap, .int .i64 l.length, .int .i64 l.length], lo, hp, df⟩, wr⟩) →
    (∀ a2 a5 lo wr, Q .ret ⟨⟨[a0, .int .i64 (firstNZ (l.drop i)), a2, .vs (ints l) l.length cap, .int .i64 l.length, a5], lo, hp, df⟩, wr⟩) →
    W (mk0 T inv F) (.loop b26_0) ⟨⟨[a0, a1, a2, .vs (ints l) l.length cap, .int .i64 l.length, .int .i64 i], lo, hp, df⟩, wr⟩ Q
  | 0, i, hi, a1, a2, lo, wr, h1, h2 => by
    obtain rfl : i = l.length := by omega
    refine W.loop ?_
    unfold b26_0
    repeat' first | apply W.seq | apply SQn | apply W.region | apply WO.nil | apply W.block | apply W.ret | apply W.exit | apply W.skip | apply SQr | apply SQe | apply BQn | apply BQr | apply BQe | (apply BQo; exact rfl) | apply LQe | apply LQr | (apply W.condT; exact rfl) | (apply W.condF; exact rfl) | (apply W.cond; exact rfl; all_goals intro _) | (apply WO.lss; exact rfl; exact rfl; all_goals first | (intro _; exfalso; omega) | intro _) | (apply WO.neq; exact rfl; exact rfl; all_goals first | (intro _; exfalso; omega) | intro _) | (apply WO.add; exact rfl; exact rfl; omega) | (apply WO.iav; exact rfl; exact rfl; omega) | (apply WO.ias; exact rfl; exact rfl; omega) | (apply WO.lda; exact rfl; exact fun _ => rfl; (first | omega | (simp only [List.length_set]; omega) | (simp; omega)); decide; exact rfl; case ia => infer_instance) | (apply WO.lsa; exact rfl; (first | exact rfl | assumption | exact at_new | (apply at_old; assumption) | (apply at_put; first | assumption | (simp only [put_length]; assumption))); exact fun _ => rfl; (first | omega | (simp only [List.length_set]; omega) | (simp; omega)); decide; exact rfl; case ia => infer_instance) | (apply WO.sneq; exact rfl; exact rfl; all_goals first | (intro h; exact absurd h (by decide)) | (intro h; exact absurd rfl h) | (intro h; contradiction) | intro _) | (apply WO.hlv; exact rfl; exact rfl; exact rfl) | (apply WO.hpv; exact rfl; exact rfl; exact rfl) | (apply WO.hnv; exact rfl; exact rfl; exact rfl) | (apply WO.pl; exact rfl; exact rfl) | (apply WO.pp; exact rfl; exact rfl)
    exact h1 (by simp [firstNZ]) _ _ _
  | r + 1, i, hi, a1, a2, lo, wr, h1, h2 => by
    have e := firstNZ_drop (l := l) (i := (i : Int).toNat) (by omega)
    rw [Int.toNat_natCast] at e
    refine W.loop ?_
    unfold b26_0
    repeat' first | apply W.seq | apply SQn | apply W.region | apply WO.nil | apply W.block | apply W.ret | apply W.exit | apply W.skip | apply SQr | apply SQe | apply BQn | apply BQr | apply BQe | (apply BQo; exact rfl) | apply LQe | apply LQr | (apply W.condT; exact rfl) | (apply W.condF; exact rfl) | (apply W.cond; exact rfl; all_goals intro _) | (apply WO.lss; exact rfl; exact rfl; all_goals first | (intro _; exfalso; omega) | intro _) | (apply WO.neq; exact rfl; exact rfl; all_goals first | (intro _; exfalso; omega) | intro _) | (apply WO.add; exact rfl; exact rfl; omega) | (apply WO.iav; exact rfl; exact rfl; omega) | (apply WO.ias; exact rfl; exact rfl; omega) | (apply WO.lda; exact rfl; exact fun _ => rfl; (first | omega | (simp only [List.length_set]; omega) | (simp; omega)); decide; exact rfl; case ia => infer_instance) | (apply WO.lsa; exact rfl; (first | exact rfl | assumption | exact at_new | (apply at_old; assumption) | (apply at_put; first | assumption | (simp only [put_length]; assumption))); exact fun _ => rfl; (first | omega | (simp only [List.length_set]; omega) | (simp; omega)); decide; exact rfl; case ia => infer_instance) | (apply WO.sneq; exact rfl; exact rfl; all_goals first | (intro h; exact absurd h (by decide)) | (intro h; exact absurd rfl h) | (intro h; contradiction) | intro _) | (apply WO.hlv; exact rfl; exact rfl; exact rfl) | (apply WO.hpv; exact rfl; exact rfl; exact rfl) | (apply WO.hnv; exact rfl; exact rfl; exact rfl) | (apply WO.pl; exact rfl; exact rfl) | (apply WO.pp; exact rfl; exact rfl)
    · rename_i hne
      rw [Int.toNat_natCast] at hne
      rw [if_neg hne] at e
      rw [e] at h2
      exact h2 _ _ _ _
    · rename_i he
      rw [Int.toNat_natCast] at he
      rw [if_pos he] at e
      rw [e] at h1 h2
      exact LQn (body26 l cap a0 hl hp df r (i + 1) (by omega) _ _ _ _ h1 h2)
theorem w26 {T : List (Nat × Spec)} (hft : F = FT) (l : List Int) (cap : Option Nat) (hl : l.length < 4611686018427387904) : Run (mk0 T inv F) 26 [.vs (ints l) l.length cap] [] ⟨.int .i64 (firstNZ l), [], []⟩ := by
  refine run_of_W (show F 26 = _ from by rw [hft]; exact ft26) (by simp) ?_
  unfold b26
  simp only [List.map_cons, List.map_nil, List.getElem?_cons_zero, List.getElem?_cons_succ, List.getElem?_nil, Option.getD_some, Option.getD_none]
  repeat' first | apply W.seq | apply SQn | apply W.region | apply WO.nil | apply W.block | apply W.ret | apply W.exit | apply W.skip | apply SQr | apply SQe | apply BQn | apply BQr | apply BQe | (apply BQo; exact rfl) | apply LQe | apply LQr | (apply W.condT; exact rfl) | (apply W.condF; exact rfl) | (apply W.cond; exact rfl; all_goals intro _) | (apply WO.pl; exact rfl; exact rfl) | (apply WO.pp; exact rfl; exact rfl)
  refine body26 l cap _ hl _ _ l.length 0 (by omega) _ _ _ _ (fun h a2 lo wr => ?_) (fun a2 a5 lo wr => ?_)
  · repeat' first | apply W.seq | apply SQn | apply W.region | apply WO.nil | apply W.block | apply W.ret | apply W.exit | apply W.skip | apply SQr | apply SQe | apply BQn | apply BQr | apply BQe | (apply BQo; exact rfl) | apply LQe | apply LQr | (apply W.condT; exact rfl) | (apply W.condF; exact rfl) | (apply W.cond; exact rfl; all_goals intro _) | (apply WO.pl; exact rfl; exact rfl) | (apply WO.pp; exact rfl; exact rfl)
    exact ⟨.inr rfl, rfl, _, rfl, by rw [List.drop_zero] at h; rw [h]; rfl, rfl⟩
  · repeat' first | apply W.seq | apply SQn | apply W.region | apply WO.nil | apply W.block | apply W.ret | apply W.exit | apply W.skip | apply SQr | apply SQe | apply BQn | apply BQr | apply BQe | (apply BQo; exact rfl) | apply LQe | apply LQr | (apply W.condT; exact rfl) | (apply W.condF; exact rfl) | (apply W.cond; exact rfl; all_goals intro _) | (apply WO.pl; exact rfl; exact rfl) | (apply WO.pp; exact rfl; exact rfl)
    exact ⟨.inr rfl, rfl, _, rfl, rfl, rfl⟩

/-! slices.Index, slices.Contains. -/
abbrev sNone : List UInt8 := [110, 111, 110, 101]
abbrev sTime : List UInt8 := [116, 105, 109, 101]
abbrev sLength : List UInt8 := [108, 101, 110, 103, 116, 104]
abbrev sPoints : List UInt8 := [112, 111, 105, 110, 116, 115]
abbrev sExact : List UInt8 := [101, 120, 97, 99, 116]
abbrev sHund : List UInt8 := [104, 117, 110, 100, 114, 101, 100, 116, 104, 115]
abbrev sTenths : List UInt8 := [116, 101, 110, 116, 104, 115]
abbrev sCent : List UInt8 := [99, 101, 110, 116, 105, 109, 101, 116, 114, 101, 115]
abbrev mkM (k : List UInt8) (v : Int) (r : List UInt8) : AV := .agg [.str k, .int .i64 v, .str r]

def indexOf (x : List UInt8) : List (List UInt8) → Nat → Int
  | [], _ => -1
  | a :: l, i => if x = a then i else indexOf x l (i + 1)
theorem indexOf_drop {x : List UInt8} {l : List (List UInt8)} {i : Nat} (h : i < l.length) : indexOf x (l.drop i) i = if x = l[i]! then (i : Int) else indexOf x (l.drop (i + 1)) (i + 1) := by
  rw [List.drop_eq_getElem_cons h, getElem!_pos l i h, indexOf]
theorem indexOf_mem {x : List UInt8} : ∀ (l : List (List UInt8)) (i : Nat), decide (0 ≤ indexOf x l i) = decide (x ∈ l)
  | [], i => by simp [indexOf]
  | a :: l, i => by
    rw [indexOf]
    split
    · rename_i h; subst h; simp
    · rename_i h; rw [indexOf_mem l (i + 1)]; simp [h]
theorem body56 {T : List (Nat × Spec)} (l : List (List UInt8)) (x : List UInt8) (cap : Option Nat) (hl : l.length < 4611686018427387904) (hp : Heap) (df : List Nat) {Q : Ex → StW → Prop} : ∀ (r i : Nat), i + r = l.length → ∀ (a2 a3 : AV) (lo : List (Nat × AV)) (wr : List Nat),
    (indexOf x (l.drop i) i = -1 → ∀ a3 lo wr, Q (.exit 0) ⟨⟨[.vs (strs l) l.length cap, .str x, a2, a3, .int .i64 l.length, .int .i64 l.length], lo, hp, df⟩, wr⟩) →
    (∀ a3 a5 lo wr, Q .ret ⟨⟨[.vs (strs l) l.length cap, .str x, .int .i64 (indexOf x (l.drop i) i), a3, .int .i64 l.length, a5], lo, hp, df⟩, wr⟩) →
    W (mk0 T inv F) (.loop b56_0) ⟨⟨[.vs (strs l) l.length cap, .str x, a2, a3, .int .i64 l.length, .int .i64 i], lo, hp, df⟩, wr⟩ Q
  | 0, i, hi, a2, a3, lo, wr, h1, h2 => by
    obtain rfl : i = l.length := by omega
    refine W.loop ?_
    unfold b56_0
    repeat' first | apply W.seq | apply SQn | apply W.region | apply WO.nil | apply W.block | apply W.ret | apply W.exit | apply W.skip | apply SQr | apply SQe | apply BQn | apply BQr | apply BQe | (apply BQo; exact rfl) | apply LQe | apply LQr | (apply W.condT; exact rfl) | (apply W.condF; exact rfl) | (apply W.cond; exact rfl; all_goals intro _) | (apply WO.lss; exact rfl; exact rfl; all_goals first | (intro _; exfalso; omega) | intro _) | (apply WO.eql; exact rfl; exact rfl; all_goals first | (intro _; exfalso; omega) | intro _) | (apply WO.add; exact rfl; exact rfl; omega) | (apply WO.iav; exact rfl; exact rfl; omega) | (apply WO.ias; exact rfl; exact rfl; omega) | (apply WO.lda; exact rfl; exact fun _ => rfl; (first | omega | (simp only [List.length_set]; omega) | (simp; omega)); decide; exact rfl; case ia => infer_instance) | (apply WO.lsa; exact rfl; (first | exact rfl | assumption | exact at_new | (apply at_old; assumption) | (apply at_put; first | assumption | (simp only [put_length]; assumption))); exact fun _ => rfl; (first | omega | (simp only [List.length_set]; omega) | (simp; omega)); decide; exact rfl; case ia => infer_instance) | (apply WO.seql; exact rfl; exact rfl; all_goals first | (intro h; exact absurd h (by decide)) | (intro h; exact absurd rfl h) | (intro h; contradiction) | intro _) | (apply WO.hlv; exact rfl; exact rfl; exact rfl) | (apply WO.hpv; exact rfl; exact rfl; exact rfl) | (apply WO.hnv; exact rfl; exact rfl; exact rfl) | (apply WO.pl; exact rfl; exact rfl) | (apply WO.pp; exact rfl; exact rfl)
    exact h1 (by simp [indexOf]) _ _ _
  | r + 1, i, hi, a2, a3, lo, wr, h1, h2 => by
    have e := indexOf_drop (x := x) (l := l) (i := (i : Int).toNat) (by omega)
    rw [Int.toNat_natCast] at e
    refine W.loop ?_
    unfold b56_0
    repeat' first | apply W.seq | apply SQn | apply W.region | apply WO.nil | apply W.block | apply W.ret | apply W.exit | apply W.skip | apply SQr | apply SQe | apply BQn | apply BQr | apply BQe | (apply BQo; exact rfl) | apply LQe | apply LQr | (apply W.condT; exact rfl) | (apply W.condF; exact rfl) | (apply W.cond; exact rfl; all_goals intro _) | (apply WO.lss; exact rfl; exact rfl; all_goals first | (intro _; exfalso; omega) | intro _) | (apply WO.eql; exact rfl; exact rfl; all_goals first | (intro _; exfalso; omega) | intro _) | (apply WO.add; exact rfl; exact rfl; omega) | (apply WO.iav; exact rfl; exact rfl; omega) | (apply WO.ias; exact rfl; exact rfl; omega) | (apply WO.lda; exact rfl; exact fun _ => rfl; (first | omega | (simp only [List.length_set]; omega) | (simp; omega)); decide; exact rfl; case ia => infer_instance) | (apply WO.lsa; exact rfl; (first | exact rfl | assumption | exact at_new | (apply at_old; assumption) | (apply at_put; first | assumption | (simp only [put_length]; assumption))); exact fun _ => rfl; (first | omega | (simp only [List.length_set]; omega) | (simp; omega)); decide; exact rfl; case ia => infer_instance) | (apply WO.seql; exact rfl; exact rfl; all_goals first | (intro h; exact absurd h (by decide)) | (intro h; exact absurd rfl h) | (intro h; contradiction) | intro _) | (apply WO.hlv; exact rfl; exact rfl; exact rfl) | (apply WO.hpv; exact rfl; exact rfl; exact rfl) | (apply WO.hnv; exact rfl; exact rfl; exact rfl) | (apply WO.pl; exact rfl; exact rfl) | (apply WO.pp; exact rfl; exact rfl)
    · rename_i he
      rw [Int.toNat_natCast] at he
      rw [if_pos he] at e
      rw [e] at h2
      exact h2 _ _ _ _
    · rename_i he
      rw [Int.toNat_natCast] at he
      rw [if_neg he] at e
      rw [e] at h1 h2
      exact LQn (body56 l x cap hl hp df r (i + 1) (by omega) _ _ _ _ h1 h2)
theorem w56 {T : List (Nat × Spec)} (hft : F = FT) (l : List (List UInt8)) (x : List UInt8) (cap : Option Nat) (hl : l.length < 4611686018427387904) : Run (mk0 T inv F) 56 [.vs (strs l) l.length cap, .str x] [] ⟨.int .i64 (indexOf x l 0), [], []⟩ := by
  refine run_of_W (show F 56 = _ from by rw [hft]; exact ft56) (by simp) ?_
  unfold b56
  simp only [List.map_cons, List.map_nil, List.getElem?_cons_zero, List.getElem?_cons_succ, List.getElem?_nil, Option.getD_some, Option.getD_none]
  repeat' first | apply W.seq | apply SQn | apply W.region | apply WO.nil | apply W.block | apply W.ret | apply W.exit | apply W.skip | apply SQr | apply SQe | apply BQn | apply BQr | apply BQe | (apply BQo; exact rfl) | apply LQe | apply LQr | (apply W.condT; exact rfl) | (apply W.condF; exact rfl) | (apply W.cond; exact rfl; all_goals intro _) | (apply WO.pl; exact rfl; exact rfl) | (apply WO.pp; exact rfl; exact rfl)
  refine body56 l x cap hl _ _ l.length 0 (by omega) _ _ _ _ (fun h a2 lo wr => ?_) (fun a2 a5 lo wr => ?_)
  · repeat' first | apply W.seq | apply SQn | apply W.region | apply WO.nil | apply W.block | apply W.ret | apply W.exit | apply W.skip | apply SQr | apply SQe | apply BQn | apply BQr | apply BQe | (apply BQo; exact rfl) | apply LQe | apply LQr | (apply W.condT; exact rfl) | (apply W.condF; exact rfl) | (apply W.cond; exact rfl; all_goals intro _) | (apply WO.pl; exact rfl; exact rfl) | (apply WO.pp; exact rfl; exact rfl)
    exact ⟨.inr rfl, rfl, _, rfl, by rw [List.drop_zero] at h; rw [h]; rfl, rfl⟩
  · repeat' first | apply W.seq | apply SQn | apply W.region | apply WO.nil | apply W.block | apply W.ret | apply W.exit | apply W.skip | apply SQr | apply SQe | apply BQn | apply BQr | apply BQe | (apply BQo; exact rfl) | apply LQe | apply LQr | (apply W.condT; exact rfl) | (apply W.condF; exact rfl) | (apply W.cond; exact rfl; all_goals intro _) | (apply WO.pl; exact rfl; exact rfl) | (apply WO.pp; exact rfl; exact rfl)
    exact ⟨.inr rfl, rfl, _, rfl, rfl, rfl⟩

def specIndex : Spec := fun
  | [v, .str x], h => match strsAt h v with
    | some l => if l.length < 4611686018427387904 then some ⟨.int .i64 (indexOf x l 0), h, []⟩ else none
    | none => none
  | _, _ => none
def specContains : Spec := fun
  | [v, .str x], h => match strsAt h v with
    | some l => if l.length < 4611686018427387904 then some ⟨.bool (decide (x ∈ l)), h, []⟩ else none
    | none => none
  | _, _ => none
theorem strsAt_vs {h : Heap} {l : List (List UInt8)} {cap : Option Nat} : strsAt h (.vs (strs l) l.length cap) = some l := by
  simp only [strsAt, cellsAt, sliceCells, decStrs_strs, if_true]

theorem w34 {T : List (Nat × Spec)} (hft : F = FT) (l : List (List UInt8)) (x : List UInt8) (cap : Option Nat) (hl : l.length < 4611686018427387904) : Run (mk0 ((56, specIndex) :: T) inv F) 34 [.vs (strs l) l.length cap, .str x] [] ⟨.bool (decide (x ∈ l)), [], []⟩ := by
  have hi : ∀ h, (mk0 ((56, specIndex) :: T) inv F).ext 56 [.vs (strs l) l.length cap, .str x] h = some ⟨.int .i64 (indexOf x l 0), h, []⟩ := fun h => by
    show extS _ _ _ _ = _
    simp only [ext_hd, specIndex, strsAt_vs, if_pos hl]
  refine run_of_W (show F 34 = _ from by rw [hft]; exact ft34) (by simp) ?_
  unfold b34
  simp only [List.map_cons, List.map_nil, List.getElem?_cons_zero, List.getElem?_cons_succ, List.getElem?_nil, Option.getD_some, Option.getD_none]
  have hm := indexOf_mem (x := x) l 0
  repeat' first | apply W.seq | apply SQn | apply W.region | apply WO.nil | apply W.block | apply W.ret | apply W.exit | apply W.skip | apply SQr | apply SQe | apply BQn | apply BQr | apply BQe | (apply BQo; exact rfl) | apply LQe | apply LQr | (apply W.condT; exact rfl) | (apply W.condF; exact rfl) | (apply W.cond; exact rfl; all_goals intro _) | (apply WO.geq; exact rfl; exact rfl; all_goals first | (intro _; exfalso; omega) | intro _) | (apply WO.cll; exact rfl; exact rfl; first | exact hi _) | (apply WO.clb; exact rfl; exact rfl; exact rfl; all_goals first | (intro h; exact absurd h (by decide)) | intro _) | (apply WO.cll; exact rfl; exact rfl; exact rfl) | (apply WO.pl; exact rfl; exact rfl) | (apply WO.pp; exact rfl; exact rfl)
  all_goals refine ⟨.inr rfl, rfl, _, rfl, ?_, rfl⟩
  all_goals rw [← hm]
  · rename_i h; rw [decide_eq_true h]; rfl
  · rename_i h; rw [decide_eq_false (by omega)]; rfl

/-! mark.isReason, mark.kinds. -/
abbrev reasons : List (List UInt8) := [[68, 78, 83], [68, 78, 70], [68, 81], [78, 77]]
def specReason : Spec := fun
  | [.str x], h => some ⟨.bool (decide (x ∈ reasons)), h, []⟩
  | _, _ => none
theorem w38 {T : List (Nat × Spec)} (hft : F = FT) (x : List UInt8) : Run (mk0 ((34, specContains) :: T) inv F) 38 [.str x] [] ⟨.bool (decide (x ∈ reasons)), [], []⟩ := by
  refine run_of_W (show F 38 = _ from by rw [hft]; exact ft38) (by simp) ?_
  unfold b38
  simp only [List.map_cons, List.map_nil, List.getElem?_cons_zero, List.getElem?_cons_succ, List.getElem?_nil, Option.getD_some, Option.getD_none]
  repeat' first | apply W.seq | apply SQn | apply W.region | apply WO.nil | apply W.block | apply W.ret | apply W.exit | apply W.skip | apply SQr | apply SQe | apply BQn | apply BQr | apply BQe | (apply BQo; exact rfl) | apply LQe | apply LQr | (apply W.condT; exact rfl) | (apply W.condF; exact rfl) | (apply W.cond; exact rfl; all_goals intro _) | (apply WO.clb; exact rfl; exact rfl; exact rfl; all_goals first | (intro h; exact absurd h (by decide)) | intro _) | (apply WO.cll; exact rfl; exact rfl; exact rfl) | (apply WO.hlv; exact rfl; exact rfl; exact rfl) | (apply WO.hpv; exact rfl; exact rfl; exact rfl) | (apply WO.hnv; exact rfl; exact rfl; exact rfl) | (apply WO.pl; exact rfl; exact rfl) | (apply WO.pp; exact rfl; exact rfl)
  all_goals (rename_i h; exact ⟨.inr rfl, rfl, _, rfl, by rw [h]; rfl, rfl⟩)
abbrev rTime (N : Nat) : AV := .agg [.int .i64 1, .int .i64 863999999, .bool false, .map (N + 1), .fn (.func 57) [] []]
abbrev rLength (N : Nat) : AV := .agg [.int .i64 0, .int .i64 999999, .bool true, .map (N + 2), .fn (.func 58) [] []]
abbrev rPoints (N : Nat) : AV := .agg [.int .i64 0, .int .i64 99999, .bool true, .map (N + 3), .fn (.func 59) [] []]
abbrev kBlocks (N : Nat) : List Blk := [.map [(.str sTime, rTime N), (.str sLength, rLength N), (.str sPoints, rPoints N)],
  .map [(.str sExact, .int .i64 1), (.str sHund, .int .i64 100), (.str sTenths, .int .i64 1000)], .map [(.str sExact, .int .i64 1), (.str sCent, .int .i64 10)], .map [(.str sExact, .int .i64 1)]]
def specKinds : Spec := fun
  | [], h => some ⟨.map h.length, h ++ (kBlocks h.length).map some, []⟩
  | _, _ => none
theorem w35 {T : List (Nat × Spec)} (hft : F = FT) : Run (mk0 T inv F) 35 [] [] ⟨.map 0, (kBlocks 0).map some, []⟩ := by
  refine run_of_W (show F 35 = _ from by rw [hft]; exact ft35) (by simp) ?_
  unfold b35
  simp only [List.map_cons, List.map_nil, List.getElem?_nil, Option.getD_none]
  repeat' first | apply W.seq | apply SQn | apply W.region | apply WO.nil | apply W.block | apply W.ret | apply W.exit | apply W.skip | apply SQr | apply SQe | apply BQn | apply BQr | apply BQe | (apply BQo; exact rfl) | apply LQe | apply LQr | (apply W.condT; exact rfl) | (apply W.condF; exact rfl) | (apply W.cond; exact rfl; all_goals intro _) | (apply WO.hlv; exact rfl; exact rfl; exact rfl) | (apply WO.hpv; exact rfl; exact rfl; exact rfl) | (apply WO.hnv; exact rfl; exact rfl; exact rfl) | (apply WO.pl; exact rfl; exact rfl) | (apply WO.pp; exact rfl; exact rfl)
  exact ⟨.inr rfl, rfl, _, rfl, rfl, rfl⟩

def kLeast (k : List UInt8) : Int := if k = sTime then 1 else 0
def kMost (k : List UInt8) : Int := if k = sTime then 863999999 else if k = sLength then 999999 else 99999
def known (k : List UInt8) : Prop := k = sTime ∨ k = sLength ∨ k = sPoints
instance (k : List UInt8) : Decidable (known k) := by unfold known; infer_instance
/-- The first error of a mark. -/
def chk (k : List UInt8) (v : Int) (r : List UInt8) : Int :=
  if k = sNone then (if r ∉ reasons then 1 else if v ≠ 0 then 3 else 0) else if ¬ known k then 13 else if r ≠ [] then 1 else if v < kLeast k ∨ kMost k < v then 3 else 0

theorem kind_cases (k : List UInt8) : k = sNone ∨ k = sTime ∨ k = sLength ∨ k = sPoints ∨ (k ≠ sNone ∧ ¬ known k) := by
  unfold known
  by_cases h1 : k = sNone
  · exact .inl h1
  by_cases h2 : k = sTime
  · exact .inr (.inl h2)
  by_cases h3 : k = sLength
  · exact .inr (.inr (.inl h3))
  by_cases h4 : k = sPoints
  · exact .inr (.inr (.inr (.inl h4)))
  exact .inr (.inr (.inr (.inr ⟨h1, by simp [h2, h3, h4]⟩)))

def TChk : List (Nat × Spec) := [(35, specKinds), (38, specReason), (28, specWhen), (26, specFirst), (39, fun
  | [.int .i64 x, .int .i64 lo, .int .i64 hi], h => some ⟨.bool (decide (x < lo) || decide (hi < x)), h, []⟩
  | _, _ => none)]
set_option maxHeartbeats 4000000 in
theorem w27 (hft : F = FT) (k : List UInt8) (v : Int) (r : List UInt8) : Run (mk0 TChk inv F) 27 [mkM k v r] [] ⟨.int .i64 (chk k v r), [], []⟩ := by
  refine run_of_W (show F 27 = _ from by rw [hft]; exact ft27) (by simp) ?_
  unfold b27
  simp only [List.map_cons, List.map_nil, List.getElem?_cons_zero, List.getElem?_cons_succ, List.getElem?_nil, Option.getD_some, Option.getD_none]
  rcases kind_cases k with rfl | rfl | rfl | rfl | ⟨h1, h2⟩
  · repeat' first | apply W.seq | apply SQn | apply W.region | apply WO.nil | apply W.block | apply W.ret | apply W.exit | apply W.skip | apply SQr | apply SQe | apply BQn | apply BQr | apply BQe | (apply BQo; exact rfl) | apply LQe | apply LQr | (apply W.drawro; exact rfl) | apply W.draw | apply WD.nil | (apply WD.gT; exact rfl) | (apply WD.gF; exact rfl) | (apply WD.sT; exact rfl) | (apply WD.sF; exact rfl) | (apply WD.sU; exact rfl) | (apply WD.pure1; exact rfl) | (apply WD.load1; exact rfl; exact rfl; exact rfl) | (apply WD.store1; exact rfl; exact rfl; exact rfl) | (apply WD.new1; exact rfl) | (apply WD.look1; exact rfl; exact rfl) | (apply WD.clb; exact rfl; exact rfl; exact rfl; exact rfl; all_goals first | (intro h; exact absurd h (by decide)) | intro _) | (apply WD.cl0; exact rfl; exact rfl; exact rfl; exact rfl) | (apply WD.cl1; exact rfl; exact rfl; exact rfl; exact rfl) | (apply W.condT; exact rfl) | (apply W.condF; exact rfl) | (apply W.cond; exact rfl; all_goals intro _) | (apply WO.eql; exact rfl; exact rfl; all_goals first | (intro _; exfalso; omega) | intro _) | (apply WO.neq; exact rfl; exact rfl; all_goals first | (intro _; exfalso; omega) | intro _) | (apply WO.seql; exact rfl; exact rfl; all_goals first | (intro h; exact absurd h (by decide)) | (intro h; exact absurd rfl h) | (intro h; contradiction) | intro _) | (apply WO.sneq; exact rfl; exact rfl; all_goals first | (intro h; exact absurd h (by decide)) | (intro h; exact absurd rfl h) | (intro h; contradiction) | intro _) | (apply WO.clb; exact rfl; exact rfl; exact rfl; all_goals first | (intro h; exact absurd h (by decide)) | intro _) | (apply WO.cll; exact rfl; exact rfl; exact rfl) | (apply WO.hlv; exact rfl; exact rfl; exact rfl) | (apply WO.hpv; exact rfl; exact rfl; exact rfl) | (apply WO.hnv; exact rfl; exact rfl; exact rfl) | (apply WO.pl; exact rfl; exact rfl) | (apply WO.pp; exact rfl; exact rfl)
    all_goals refine ⟨.inr rfl, rfl, _, rfl, congrArg (AV.int .i64) ?_, rfl⟩
    all_goals (by_cases hr : r ∈ reasons <;> simp_all [firstNZ, chk])
  · repeat' first | apply W.seq | apply SQn | apply W.region | apply WO.nil | apply W.block | apply W.ret | apply W.exit | apply W.skip | apply SQr | apply SQe | apply BQn | apply BQr | apply BQe | (apply BQo; exact rfl) | apply LQe | apply LQr | (apply W.drawro; exact rfl) | apply W.draw | apply WD.nil | (apply WD.gT; exact rfl) | (apply WD.gF; exact rfl) | (apply WD.sT; exact rfl) | (apply WD.sF; exact rfl) | (apply WD.sU; exact rfl) | (apply WD.pure1; exact rfl) | (apply WD.load1; exact rfl; exact rfl; exact rfl) | (apply WD.store1; exact rfl; exact rfl; exact rfl) | (apply WD.new1; exact rfl) | (apply WD.look1; exact rfl; exact rfl) | (apply WD.clb; exact rfl; exact rfl; exact rfl; exact rfl; all_goals first | (intro h; exact absurd h (by decide)) | intro _) | (apply WD.cl0; exact rfl; exact rfl; exact rfl; exact rfl) | (apply WD.cl1; exact rfl; exact rfl; exact rfl; exact rfl) | (apply W.condT; exact rfl) | (apply W.condF; exact rfl) | (apply W.cond; exact rfl; all_goals intro _) | (apply WO.eql; exact rfl; exact rfl; all_goals first | (intro _; exfalso; omega) | intro _) | (apply WO.neq; exact rfl; exact rfl; all_goals first | (intro _; exfalso; omega) | intro _) | (apply WO.seql; exact rfl; exact rfl; all_goals first | (intro h; exact absurd h (by decide)) | (intro h; exact absurd rfl h) | (intro h; contradiction) | intro _) | (apply WO.sneq; exact rfl; exact rfl; all_goals first | (intro h; exact absurd h (by decide)) | (intro h; exact absurd rfl h) | (intro h; contradiction) | intro _) | (apply WO.clb; exact rfl; exact rfl; exact rfl; all_goals first | (intro h; exact absurd h (by decide)) | intro _) | (apply WO.cll; exact rfl; exact rfl; exact rfl) | (apply WO.hlv; exact rfl; exact rfl; exact rfl) | (apply WO.hpv; exact rfl; exact rfl; exact rfl) | (apply WO.hnv; exact rfl; exact rfl; exact rfl) | (apply WO.pl; exact rfl; exact rfl) | (apply WO.pp; exact rfl; exact rfl)
    all_goals refine ⟨.inr rfl, rfl, _, rfl, congrArg (AV.int .i64) ?_, rfl⟩
    all_goals (by_cases hv : v < 1 ∨ 863999999 < v <;> simp_all [firstNZ, chk, known, kLeast, kMost] <;> omega)
  · repeat' first | apply W.seq | apply SQn | apply W.region | apply WO.nil | apply W.block | apply W.ret | apply W.exit | apply W.skip | apply SQr | apply SQe | apply BQn | apply BQr | apply BQe | (apply BQo; exact rfl) | apply LQe | apply LQr | (apply W.drawro; exact rfl) | apply W.draw | apply WD.nil | (apply WD.gT; exact rfl) | (apply WD.gF; exact rfl) | (apply WD.sT; exact rfl) | (apply WD.sF; exact rfl) | (apply WD.sU; exact rfl) | (apply WD.pure1; exact rfl) | (apply WD.load1; exact rfl; exact rfl; exact rfl) | (apply WD.store1; exact rfl; exact rfl; exact rfl) | (apply WD.new1; exact rfl) | (apply WD.look1; exact rfl; exact rfl) | (apply WD.clb; exact rfl; exact rfl; exact rfl; exact rfl; all_goals first | (intro h; exact absurd h (by decide)) | intro _) | (apply WD.cl0; exact rfl; exact rfl; exact rfl; exact rfl) | (apply WD.cl1; exact rfl; exact rfl; exact rfl; exact rfl) | (apply W.condT; exact rfl) | (apply W.condF; exact rfl) | (apply W.cond; exact rfl; all_goals intro _) | (apply WO.eql; exact rfl; exact rfl; all_goals first | (intro _; exfalso; omega) | intro _) | (apply WO.neq; exact rfl; exact rfl; all_goals first | (intro _; exfalso; omega) | intro _) | (apply WO.seql; exact rfl; exact rfl; all_goals first | (intro h; exact absurd h (by decide)) | (intro h; exact absurd rfl h) | (intro h; contradiction) | intro _) | (apply WO.sneq; exact rfl; exact rfl; all_goals first | (intro h; exact absurd h (by decide)) | (intro h; exact absurd rfl h) | (intro h; contradiction) | intro _) | (apply WO.clb; exact rfl; exact rfl; exact rfl; all_goals first | (intro h; exact absurd h (by decide)) | intro _) | (apply WO.cll; exact rfl; exact rfl; exact rfl) | (apply WO.hlv; exact rfl; exact rfl; exact rfl) | (apply WO.hpv; exact rfl; exact rfl; exact rfl) | (apply WO.hnv; exact rfl; exact rfl; exact rfl) | (apply WO.pl; exact rfl; exact rfl) | (apply WO.pp; exact rfl; exact rfl)
    all_goals refine ⟨.inr rfl, rfl, _, rfl, congrArg (AV.int .i64) ?_, rfl⟩
    all_goals (by_cases hv : v < 0 ∨ 999999 < v <;> simp_all [firstNZ, chk, known, kLeast, kMost] <;> omega)
  · repeat' first | apply W.seq | apply SQn | apply W.region | apply WO.nil | apply W.block | apply W.ret | apply W.exit | apply W.skip | apply SQr | apply SQe | apply BQn | apply BQr | apply BQe | (apply BQo; exact rfl) | apply LQe | apply LQr | (apply W.drawro; exact rfl) | apply W.draw | apply WD.nil | (apply WD.gT; exact rfl) | (apply WD.gF; exact rfl) | (apply WD.sT; exact rfl) | (apply WD.sF; exact rfl) | (apply WD.sU; exact rfl) | (apply WD.pure1; exact rfl) | (apply WD.load1; exact rfl; exact rfl; exact rfl) | (apply WD.store1; exact rfl; exact rfl; exact rfl) | (apply WD.new1; exact rfl) | (apply WD.look1; exact rfl; exact rfl) | (apply WD.clb; exact rfl; exact rfl; exact rfl; exact rfl; all_goals first | (intro h; exact absurd h (by decide)) | intro _) | (apply WD.cl0; exact rfl; exact rfl; exact rfl; exact rfl) | (apply WD.cl1; exact rfl; exact rfl; exact rfl; exact rfl) | (apply W.condT; exact rfl) | (apply W.condF; exact rfl) | (apply W.cond; exact rfl; all_goals intro _) | (apply WO.eql; exact rfl; exact rfl; all_goals first | (intro _; exfalso; omega) | intro _) | (apply WO.neq; exact rfl; exact rfl; all_goals first | (intro _; exfalso; omega) | intro _) | (apply WO.seql; exact rfl; exact rfl; all_goals first | (intro h; exact absurd h (by decide)) | (intro h; exact absurd rfl h) | (intro h; contradiction) | intro _) | (apply WO.sneq; exact rfl; exact rfl; all_goals first | (intro h; exact absurd h (by decide)) | (intro h; exact absurd rfl h) | (intro h; contradiction) | intro _) | (apply WO.clb; exact rfl; exact rfl; exact rfl; all_goals first | (intro h; exact absurd h (by decide)) | intro _) | (apply WO.cll; exact rfl; exact rfl; exact rfl) | (apply WO.hlv; exact rfl; exact rfl; exact rfl) | (apply WO.hpv; exact rfl; exact rfl; exact rfl) | (apply WO.hnv; exact rfl; exact rfl; exact rfl) | (apply WO.pl; exact rfl; exact rfl) | (apply WO.pp; exact rfl; exact rfl)
    all_goals refine ⟨.inr rfl, rfl, _, rfl, congrArg (AV.int .i64) ?_, rfl⟩
    all_goals (by_cases hv : v < 0 ∨ 99999 < v <;> simp_all [firstNZ, chk, known, kLeast, kMost] <;> omega)
  · simp only [known, not_or] at h2
    have b1 : (k == sTime) = false := beq_eq_false_iff_ne.2 h2.1
    have b2 : (k == sLength) = false := beq_eq_false_iff_ne.2 h2.2.1
    have b3 : (k == sPoints) = false := beq_eq_false_iff_ne.2 h2.2.2
    repeat' first | apply W.seq | apply SQn | apply W.region | apply WO.nil | apply W.block | apply W.ret | apply W.exit | apply W.skip | apply SQr | apply SQe | apply BQn | apply BQr | apply BQe | (apply BQo; exact rfl) | apply LQe | apply LQr | (apply W.drawro; exact rfl) | apply W.draw | apply WD.nil | (apply WD.gT; exact rfl) | (apply WD.gF; exact rfl) | (apply WD.sT; exact rfl) | (apply WD.sF; exact rfl) | (apply WD.sU; exact rfl) | (apply WD.pure1; exact rfl) | (apply WD.load1; exact rfl; exact rfl; exact rfl) | (apply WD.store1; exact rfl; exact rfl; exact rfl) | (apply WD.new1; exact rfl) | (apply WD.look1; exact rfl; exact rfl) | (apply WD.clb; exact rfl; exact rfl; exact rfl; exact rfl; all_goals first | (intro h; exact absurd h (by decide)) | intro _) | (apply WD.cl0; exact rfl; exact rfl; exact rfl; exact rfl) | (apply WD.cl1; exact rfl; exact rfl; exact rfl; exact rfl) | (apply W.condT; exact rfl) | (apply W.condF; exact rfl) | (apply W.cond; exact rfl; all_goals intro _) | (apply WO.eql; exact rfl; exact rfl; all_goals first | (intro _; exfalso; omega) | intro _) | (apply WO.neq; exact rfl; exact rfl; all_goals first | (intro _; exfalso; omega) | intro _) | (apply WO.lkN; exact rfl; exact rfl; exact rfl; exact rfl; simp only [findA, keyEq, b1, b2, b3]) | (apply WO.seql; exact rfl; exact rfl; all_goals first | (intro h; exact absurd h (by decide)) | (intro h; exact absurd rfl h) | (intro h; contradiction) | intro _) | (apply WO.sneq; exact rfl; exact rfl; all_goals first | (intro h; exact absurd h (by decide)) | (intro h; exact absurd rfl h) | (intro h; contradiction) | intro _) | (apply WO.clb; exact rfl; exact rfl; exact rfl; all_goals first | (intro h; exact absurd h (by decide)) | intro _) | (apply WO.cll; exact rfl; exact rfl; exact rfl) | (apply WO.hlv; exact rfl; exact rfl; exact rfl) | (apply WO.hpv; exact rfl; exact rfl; exact rfl) | (apply WO.hnv; exact rfl; exact rfl; exact rfl) | (apply WO.pl; exact rfl; exact rfl) | (apply WO.pp; exact rfl; exact rfl)
    all_goals refine ⟨.inr rfl, rfl, _, rfl, congrArg (AV.int .i64) ?_, rfl⟩
    all_goals simp [firstNZ, chk, known, h1, h2]

def specChk : Spec := fun
  | [.agg [.str k, .int .i64 v, .str r]], h => some ⟨.int .i64 (chk k v r), h, []⟩
  | _, _ => none

/-- What a mark is worth. -/
def worth (k : List UInt8) (v : Int) : Int := if k = sTime then IntKind.i64.wrap (0 - v) else if known k then v else -864000000
def specWorth : Spec := fun
  | [.agg [.str k, .int .i64 v, .str _]], h => some ⟨.int .i64 (worth k v), h, []⟩
  | _, _ => none
def TKinds : List (Nat × Spec) := [(35, specKinds)]
set_option maxHeartbeats 4000000 in
theorem w40 (hft : F = FT) (k : List UInt8) (v : Int) (r : List UInt8) : Run (mk0 TKinds inv F) 40 [mkM k v r] [] ⟨.int .i64 (worth k v), [], []⟩ := by
  refine run_of_W (show F 40 = _ from by rw [hft]; exact ft40) (by simp) ?_
  unfold b40
  simp only [List.map_cons, List.map_nil, List.getElem?_cons_zero, List.getElem?_cons_succ, List.getElem?_nil, Option.getD_some, Option.getD_none]
  rcases kind_cases k with rfl | rfl | rfl | rfl | ⟨h1, h2⟩
  · repeat' first | apply W.seq | apply SQn | apply W.region | apply WO.nil | apply W.block | apply W.ret | apply W.exit | apply W.skip | apply SQr | apply SQe | apply BQn | apply BQr | apply BQe | (apply BQo; exact rfl) | apply LQe | apply LQr | (apply W.drawro; exact rfl) | apply W.draw | apply WD.nil | (apply WD.gT; exact rfl) | (apply WD.gF; exact rfl) | (apply WD.sT; exact rfl) | (apply WD.sF; exact rfl) | (apply WD.sU; exact rfl) | (apply WD.pure1; exact rfl) | (apply WD.load1; exact rfl; exact rfl; exact rfl) | (apply WD.store1; exact rfl; exact rfl; exact rfl) | (apply WD.new1; exact rfl) | (apply WD.look1; exact rfl; exact rfl) | (apply WD.clb; exact rfl; exact rfl; exact rfl; exact rfl; all_goals first | (intro h; exact absurd h (by decide)) | intro _) | (apply WD.cl0; exact rfl; exact rfl; exact rfl; exact rfl) | (apply WD.cl1; exact rfl; exact rfl; exact rfl; exact rfl) | (apply W.condT; exact rfl) | (apply W.condF; exact rfl) | (apply W.cond; exact rfl; all_goals intro _) | (apply WO.lkN; exact rfl; exact rfl; exact rfl; exact rfl; exact rfl) | (apply WO.clb; exact rfl; exact rfl; exact rfl; all_goals first | (intro h; exact absurd h (by decide)) | intro _) | (apply WO.cll; exact rfl; exact rfl; exact rfl) | (apply WO.neg; exact rfl; omega) | (apply WO.hlv; exact rfl; exact rfl; exact rfl) | (apply WO.hpv; exact rfl; exact rfl; exact rfl) | (apply WO.hnv; exact rfl; exact rfl; exact rfl) | (apply WO.pl; exact rfl; exact rfl) | (apply WO.pp; exact rfl; exact rfl)
    exact ⟨.inr rfl, rfl, _, rfl, rfl, rfl⟩
  · repeat' first | apply W.seq | apply SQn | apply W.region | apply WO.nil | apply W.block | apply W.ret | apply W.exit | apply W.skip | apply SQr | apply SQe | apply BQn | apply BQr | apply BQe | (apply BQo; exact rfl) | apply LQe | apply LQr | (apply W.drawro; exact rfl) | apply W.draw | apply WD.nil | (apply WD.gT; exact rfl) | (apply WD.gF; exact rfl) | (apply WD.sT; exact rfl) | (apply WD.sF; exact rfl) | (apply WD.sU; exact rfl) | (apply WD.pure1; exact rfl) | (apply WD.load1; exact rfl; exact rfl; exact rfl) | (apply WD.store1; exact rfl; exact rfl; exact rfl) | (apply WD.new1; exact rfl) | (apply WD.look1; exact rfl; exact rfl) | (apply WD.clb; exact rfl; exact rfl; exact rfl; exact rfl; all_goals first | (intro h; exact absurd h (by decide)) | intro _) | (apply WD.cl0; exact rfl; exact rfl; exact rfl; exact rfl) | (apply WD.cl1; exact rfl; exact rfl; exact rfl; exact rfl) | (apply W.condT; exact rfl) | (apply W.condF; exact rfl) | (apply W.cond; exact rfl; all_goals intro _) | (apply WO.clb; exact rfl; exact rfl; exact rfl; all_goals first | (intro h; exact absurd h (by decide)) | intro _) | (apply WO.cll; exact rfl; exact rfl; exact rfl) | (apply WO.neg; exact rfl; omega) | (apply WO.hlv; exact rfl; exact rfl; exact rfl) | (apply WO.hpv; exact rfl; exact rfl; exact rfl) | (apply WO.hnv; exact rfl; exact rfl; exact rfl) | (apply WO.pl; exact rfl; exact rfl) | (apply WO.pp; exact rfl; exact rfl)
    exact ⟨.inr rfl, rfl, _, rfl, rfl, rfl⟩
  · repeat' first | apply W.seq | apply SQn | apply W.region | apply WO.nil | apply W.block | apply W.ret | apply W.exit | apply W.skip | apply SQr | apply SQe | apply BQn | apply BQr | apply BQe | (apply BQo; exact rfl) | apply LQe | apply LQr | (apply W.drawro; exact rfl) | apply W.draw | apply WD.nil | (apply WD.gT; exact rfl) | (apply WD.gF; exact rfl) | (apply WD.sT; exact rfl) | (apply WD.sF; exact rfl) | (apply WD.sU; exact rfl) | (apply WD.pure1; exact rfl) | (apply WD.load1; exact rfl; exact rfl; exact rfl) | (apply WD.store1; exact rfl; exact rfl; exact rfl) | (apply WD.new1; exact rfl) | (apply WD.look1; exact rfl; exact rfl) | (apply WD.clb; exact rfl; exact rfl; exact rfl; exact rfl; all_goals first | (intro h; exact absurd h (by decide)) | intro _) | (apply WD.cl0; exact rfl; exact rfl; exact rfl; exact rfl) | (apply WD.cl1; exact rfl; exact rfl; exact rfl; exact rfl) | (apply W.condT; exact rfl) | (apply W.condF; exact rfl) | (apply W.cond; exact rfl; all_goals intro _) | (apply WO.clb; exact rfl; exact rfl; exact rfl; all_goals first | (intro h; exact absurd h (by decide)) | intro _) | (apply WO.cll; exact rfl; exact rfl; exact rfl) | (apply WO.neg; exact rfl; omega) | (apply WO.hlv; exact rfl; exact rfl; exact rfl) | (apply WO.hpv; exact rfl; exact rfl; exact rfl) | (apply WO.hnv; exact rfl; exact rfl; exact rfl) | (apply WO.pl; exact rfl; exact rfl) | (apply WO.pp; exact rfl; exact rfl)
    exact ⟨.inr rfl, rfl, _, rfl, rfl, rfl⟩
  · repeat' first | apply W.seq | apply SQn | apply W.region | apply WO.nil | apply W.block | apply W.ret | apply W.exit | apply W.skip | apply SQr | apply SQe | apply BQn | apply BQr | apply BQe | (apply BQo; exact rfl) | apply LQe | apply LQr | (apply W.drawro; exact rfl) | apply W.draw | apply WD.nil | (apply WD.gT; exact rfl) | (apply WD.gF; exact rfl) | (apply WD.sT; exact rfl) | (apply WD.sF; exact rfl) | (apply WD.sU; exact rfl) | (apply WD.pure1; exact rfl) | (apply WD.load1; exact rfl; exact rfl; exact rfl) | (apply WD.store1; exact rfl; exact rfl; exact rfl) | (apply WD.new1; exact rfl) | (apply WD.look1; exact rfl; exact rfl) | (apply WD.clb; exact rfl; exact rfl; exact rfl; exact rfl; all_goals first | (intro h; exact absurd h (by decide)) | intro _) | (apply WD.cl0; exact rfl; exact rfl; exact rfl; exact rfl) | (apply WD.cl1; exact rfl; exact rfl; exact rfl; exact rfl) | (apply W.condT; exact rfl) | (apply W.condF; exact rfl) | (apply W.cond; exact rfl; all_goals intro _) | (apply WO.clb; exact rfl; exact rfl; exact rfl; all_goals first | (intro h; exact absurd h (by decide)) | intro _) | (apply WO.cll; exact rfl; exact rfl; exact rfl) | (apply WO.neg; exact rfl; omega) | (apply WO.hlv; exact rfl; exact rfl; exact rfl) | (apply WO.hpv; exact rfl; exact rfl; exact rfl) | (apply WO.hnv; exact rfl; exact rfl; exact rfl) | (apply WO.pl; exact rfl; exact rfl) | (apply WO.pp; exact rfl; exact rfl)
    exact ⟨.inr rfl, rfl, _, rfl, rfl, rfl⟩
  · simp only [known, not_or] at h2
    have b1 : (k == sTime) = false := beq_eq_false_iff_ne.2 h2.1
    have b2 : (k == sLength) = false := beq_eq_false_iff_ne.2 h2.2.1
    have b3 : (k == sPoints) = false := beq_eq_false_iff_ne.2 h2.2.2
    repeat' first | apply W.seq | apply SQn | apply W.region | apply WO.nil | apply W.block | apply W.ret | apply W.exit | apply W.skip | apply SQr | apply SQe | apply BQn | apply BQr | apply BQe | (apply BQo; exact rfl) | apply LQe | apply LQr | (apply W.drawro; exact rfl) | apply W.draw | apply WD.nil | (apply WD.gT; exact rfl) | (apply WD.gF; exact rfl) | (apply WD.sT; exact rfl) | (apply WD.sF; exact rfl) | (apply WD.sU; exact rfl) | (apply WD.pure1; exact rfl) | (apply WD.load1; exact rfl; exact rfl; exact rfl) | (apply WD.store1; exact rfl; exact rfl; exact rfl) | (apply WD.new1; exact rfl) | (apply WD.look1; exact rfl; exact rfl) | (apply WD.clb; exact rfl; exact rfl; exact rfl; exact rfl; all_goals first | (intro h; exact absurd h (by decide)) | intro _) | (apply WD.cl0; exact rfl; exact rfl; exact rfl; exact rfl) | (apply WD.cl1; exact rfl; exact rfl; exact rfl; exact rfl) | (apply W.condT; exact rfl) | (apply W.condF; exact rfl) | (apply W.cond; exact rfl; all_goals intro _) | (apply WO.lkN; exact rfl; exact rfl; exact rfl; exact rfl; simp only [findA, keyEq, b1, b2, b3]) | (apply WO.clb; exact rfl; exact rfl; exact rfl; all_goals first | (intro h; exact absurd h (by decide)) | intro _) | (apply WO.cll; exact rfl; exact rfl; exact rfl) | (apply WO.neg; exact rfl; omega) | (apply WO.hlv; exact rfl; exact rfl; exact rfl) | (apply WO.hpv; exact rfl; exact rfl; exact rfl) | (apply WO.hnv; exact rfl; exact rfl; exact rfl) | (apply WO.pl; exact rfl; exact rfl) | (apply WO.pp; exact rfl; exact rfl)
    exact ⟨.inr rfl, rfl, _, rfl, congrArg (AV.int .i64) (by simp [worth, known, h2]), rfl⟩

/-- -1 as the first number is greater. -/
def cmpW (x y : Int) : Int := if y < x then -1 else if x < y then 1 else 0
def specCmp : Spec := fun
  | [.agg [.str k, .int .i64 v, .str _], .agg [.str k', .int .i64 v', .str _]], h => some ⟨.int .i64 (cmpW (worth k v) (worth k' v')), h, []⟩
  | _, _ => none
def TCmp : List (Nat × Spec) := [(40, specWorth)]
theorem w30 (hft : F = FT) (k : List UInt8) (v : Int) (r : List UInt8) (k' : List UInt8) (v' : Int) (r' : List UInt8) : Run (mk0 TCmp inv F) 30 [mkM k v r, mkM k' v' r'] [] ⟨.int .i64 (cmpW (worth k v) (worth k' v')), [], []⟩ := by
  refine run_of_W (show F 30 = _ from by rw [hft]; exact ft30) (by simp) ?_
  unfold b30
  simp only [List.map_cons, List.map_nil, List.getElem?_cons_zero, List.getElem?_cons_succ, List.getElem?_nil, Option.getD_some, Option.getD_none]
  repeat' first | apply W.seq | apply SQn | apply W.region | apply WO.nil | apply W.block | apply W.ret | apply W.exit | apply W.skip | apply SQr | apply SQe | apply BQn | apply BQr | apply BQe | (apply BQo; exact rfl) | apply LQe | apply LQr | (apply W.drawro; exact rfl) | apply W.draw | apply WD.nil | (apply WD.gT; exact rfl) | (apply WD.gF; exact rfl) | (apply WD.sT; exact rfl) | (apply WD.sF; exact rfl) | (apply WD.sU; exact rfl) | (apply WD.pure1; exact rfl) | (apply WD.load1; exact rfl; exact rfl; exact rfl) | (apply WD.new1; exact rfl) | (apply WD.clb; exact rfl; exact rfl; exact rfl; exact rfl; all_goals first | (intro h; exact absurd h (by decide)) | intro _) | (apply WD.cl0; exact rfl; exact rfl; exact rfl; exact rfl) | (apply WD.cl1; exact rfl; exact rfl; exact rfl; exact rfl) | (apply W.condT; exact rfl) | (apply W.condF; exact rfl) | (apply W.cond; exact rfl; all_goals intro _) | (apply WO.lss; exact rfl; exact rfl; all_goals first | (intro _; exfalso; omega) | intro _) | (apply WO.gtr; exact rfl; exact rfl; all_goals first | (intro _; exfalso; omega) | intro _) | (apply WO.clb; exact rfl; exact rfl; exact rfl; all_goals first | (intro h; exact absurd h (by decide)) | intro _) | (apply WO.cll; exact rfl; exact rfl; exact rfl) | (apply WO.hlv; exact rfl; exact rfl; exact rfl) | (apply WO.hpv; exact rfl; exact rfl; exact rfl) | (apply WO.hnv; exact rfl; exact rfl; exact rfl) | (apply WO.pl; exact rfl; exact rfl) | (apply WO.pp; exact rfl; exact rfl)
  all_goals refine ⟨.inr rfl, rfl, _, rfl, congrArg (AV.int .i64) ?_, rfl⟩
  all_goals unfold cmpW
  · rw [if_pos (by assumption)]
  · rw [if_neg (by omega), if_pos (by assumption)]
  · rw [if_neg (by omega), if_neg (by omega)]

def differ (k k' : List UInt8) : Bool := decide (k ≠ k' ∧ k ≠ sNone ∧ k' ≠ sNone)
def specDiffer : Spec := fun
  | [.agg [.str k, .int .i64 _, .str _], .agg [.str k', .int .i64 _, .str _]], h => some ⟨.bool (differ k k'), h, []⟩
  | _, _ => none
theorem w29 {T : List (Nat × Spec)} (hft : F = FT) (k : List UInt8) (v : Int) (r : List UInt8) (k' : List UInt8) (v' : Int) (r' : List UInt8) : Run (mk0 T inv F) 29 [mkM k v r, mkM k' v' r'] [] ⟨.bool (differ k k'), [], []⟩ := by
  refine run_of_W (show F 29 = _ from by rw [hft]; exact ft29) (by simp) ?_
  unfold b29
  simp only [List.map_cons, List.map_nil, List.getElem?_cons_zero, List.getElem?_cons_succ, List.getElem?_nil, Option.getD_some, Option.getD_none]
  repeat' first | apply W.seq | apply SQn | apply W.region | apply WO.nil | apply W.block | apply W.ret | apply W.exit | apply W.skip | apply SQr | apply SQe | apply BQn | apply BQr | apply BQe | (apply BQo; exact rfl) | apply LQe | apply LQr | (apply W.condT; exact rfl) | (apply W.condF; exact rfl) | (apply W.cond; exact rfl; all_goals intro _) | (apply WO.gT; exact rfl) | (apply WO.gF; exact rfl) | (apply WO.sT; exact rfl) | (apply WO.sF; exact rfl) | (apply WO.sU; exact rfl) | (apply WO.neq; exact rfl; exact rfl; all_goals first | (intro _; exfalso; omega) | intro _) | (apply WO.pkT; exact rfl; exact rfl) | (apply WO.pkF; exact rfl; exact rfl) | (apply WO.sneq; exact rfl; exact rfl; all_goals first | (intro h; exact absurd h (by decide)) | (intro h; exact absurd rfl h) | (intro h; contradiction) | intro _) | (apply WO.hlv; exact rfl; exact rfl; exact rfl) | (apply WO.hpv; exact rfl; exact rfl; exact rfl) | (apply WO.hnv; exact rfl; exact rfl; exact rfl) | (apply WO.pl; exact rfl; exact rfl) | (apply WO.pp; exact rfl; exact rfl)
  all_goals exact ⟨.inr rfl, rfl, _, rfl, congrArg AV.bool (by simp_all [differ]), rfl⟩

/-- The error of a comparison. -/
def cmpE (k : List UInt8) (v : Int) (r : List UInt8) (k' : List UInt8) (v' : Int) (r' : List UInt8) : Int := firstNZ [chk k v r, chk k' v' r', if differ k k' then 13 else 0]
def specCompare : Spec := fun
  | [.agg [.str k, .int .i64 v, .str r], .agg [.str k', .int .i64 v', .str r']], h =>
    some ⟨.tup [.int .i64 (if cmpE k v r k' v' r' ≠ 0 then 0 else cmpW (worth k v) (worth k' v')), .int .i64 (cmpE k v r k' v' r')], h, []⟩
  | _, _ => none
def TCompare : List (Nat × Spec) := [(27, specChk), (29, specDiffer), (28, specWhen), (26, specFirst), (30, specCmp)]
set_option maxHeartbeats 4000000 in
theorem w8 (hft : F = FT) (k : List UInt8) (v : Int) (r : List UInt8) (k' : List UInt8) (v' : Int) (r' : List UInt8) : Run (mk0 TCompare inv F) 8 [mkM k v r, mkM k' v' r'] [] ⟨.tup [.int .i64 (if cmpE k v r k' v' r' ≠ 0 then 0 else cmpW (worth k v) (worth k' v')), .int .i64 (cmpE k v r k' v' r')], [], []⟩ := by
  refine run_of_W (show F 8 = _ from by rw [hft]; exact ft8) (by simp) ?_
  unfold b8
  simp only [List.map_cons, List.map_nil, List.getElem?_cons_zero, List.getElem?_cons_succ, List.getElem?_nil, Option.getD_some, Option.getD_none]
  repeat' first | apply W.seq | apply SQn | apply W.region | apply WO.nil | apply W.block | apply W.ret | apply W.exit | apply W.skip | apply SQr | apply SQe | apply BQn | apply BQr | apply BQe | (apply BQo; exact rfl) | apply LQe | apply LQr | (apply W.drawro; exact rfl) | apply W.draw | apply WD.nil | (apply WD.gT; exact rfl) | (apply WD.gF; exact rfl) | (apply WD.sT; exact rfl) | (apply WD.sF; exact rfl) | (apply WD.sU; exact rfl) | (apply WD.pure1; exact rfl) | (apply WD.load1; exact rfl; exact rfl; exact rfl) | (apply WD.new1; exact rfl) | (apply WD.clb; exact rfl; exact rfl; exact rfl; exact rfl; all_goals first | (intro h; exact absurd h (by decide)) | intro _) | (apply WD.cl0; exact rfl; exact rfl; exact rfl; exact rfl) | (apply WD.cl1; exact rfl; exact rfl; exact rfl; exact rfl) | (apply W.condT; exact rfl) | (apply W.condF; exact rfl) | (apply W.cond; exact rfl; all_goals intro _) | (apply WO.neq; exact rfl; exact rfl; all_goals first | (intro _; exfalso; omega) | intro _) | (apply WO.sneq; exact rfl; exact rfl; all_goals first | (intro h; exact absurd h (by decide)) | (intro h; exact absurd rfl h) | (intro h; contradiction) | intro _) | (apply WO.clb; exact rfl; exact rfl; exact rfl; all_goals first | (intro h; exact absurd h (by decide)) | intro _) | (apply WO.cll; exact rfl; exact rfl; exact rfl) | (apply WO.hlv; exact rfl; exact rfl; exact rfl) | (apply WO.hpv; exact rfl; exact rfl; exact rfl) | (apply WO.hnv; exact rfl; exact rfl; exact rfl) | (apply WO.pl; exact rfl; exact rfl) | (apply WO.pp; exact rfl; exact rfl)
  all_goals refine ⟨.inr rfl, rfl, _, rfl, ?_, rfl⟩
  all_goals (rename_i h1 h2; simp only [tupA, cmpE, h1] at h2 ⊢)
  all_goals first | rw [if_pos h2] | rw [if_neg (by omega), h2]
end Go.Ab.T5.A


/-
  Own work: strideIn and the law TopStrideStarts.
-/
namespace Go.Ab.T5
variable {M : Mach} {cap : Option Nat}

/-- What is appended to a slice of which all the room is taken. -/
theorem WO.apg {t esz0 bytes n w c : Nat} {elem el : TypeId} {x y : IOpd} {l : List IOper} {pe : List AV} {lo : List (Nat × AV)} {hp : Heap} {df wr : List Nat} {b : AV} {old new al : List AV} {Q : StW → Prop} (hx : (St.mk pe lo hp df).opd x = some (.sl c 0 w esz0 (some w))) (hy : (St.mk pe lo hp df).opd y = some b) (hb : hp.at c = some (.cells old el))
    (ho : old.length = w * esz0) (hs : sliceCells hp b = some (new, n)) (hc : new.length = n * esz0 ∧ 0 < bytes ∧ new.all oneA = true) (hn : 0 < n ∧ (w + n) * bytes ≤ roomLimit) (ha : old ++ new = al) (h : WO M l ⟨⟨pe, (t, .sl hp.length 0 (w + n) esz0 none) :: lo, hp ++ [some (.cells al elem)], df⟩, wr⟩ Q) : WO M (⟨.l t, .append elem esz0 bytes x y, none⟩ :: l) ⟨⟨pe, lo, hp, df⟩, wr⟩ Q := by
  subst ha
  refine WO.hlv (v := .sl hp.length 0 (w + n) esz0 none) (h' := hp ++ [some (.cells (old ++ new) elem)]) (w' := []) ?_ rfl rfl h
  simp only [heapA, hx, hy, appendA, hs, if_pos hc]
  rw [if_neg (by omega), if_pos ⟨trivial, hn.2⟩]
  simp only [hb]
  rw [if_neg (by omega)]
  have e : cut old 0 (w * esz0) = some old := by rw [← ho]; simp [cut]
  simp only [e]

/-! mark.outside. -/
theorem w39 (hft : M.FT = FT) (x lo hi : Int) : Run M 39 [.int .i64 x, .int .i64 lo, .int .i64 hi] [] ⟨.bool (outI x lo hi), [], []⟩ := by
  refine run_of_W (by rw [hft]; exact ft39) (by simp) ?_
  unfold b39
  simp only [List.map_cons, List.map_nil, List.getElem?_cons_zero, List.getElem?_cons_succ, List.getElem?_nil, Option.getD_some, Option.getD_none]
  repeat' first | apply W.seq | apply SQn | apply W.region | apply WO.nil | apply W.block | apply W.ret | apply W.exit | apply W.skip | apply SQr | apply SQe | apply BQn | apply BQr | apply BQe | (apply BQo; exact rfl) | apply LQe | apply LQr | (apply W.condT; exact rfl) | (apply W.condF; exact rfl) | (apply W.cond; exact rfl; all_goals intro _) | (apply WO.gT; exact rfl) | (apply WO.gF; exact rfl) | (apply WO.sT; exact rfl) | (apply WO.sF; exact rfl) | (apply WO.sU; exact rfl) | (apply WO.lss; exact rfl; exact rfl; all_goals first | (intro _; exfalso; omega) | intro _) | (apply WO.gtr; exact rfl; exact rfl; all_goals first | (intro _; exfalso; omega) | intro _) | (apply WO.pkT; exact rfl; exact rfl) | (apply WO.pkF; exact rfl; exact rfl) | (apply WO.pl; exact rfl; exact rfl) | (apply WO.pp; exact rfl; exact rfl)
  all_goals exact ⟨.inr rfl, rfl, _, rfl, congrArg AV.bool (by simp_all [outI]), rfl⟩

/-! strideIn. -/
theorem mem_drop {l : List Int} {n : Int} {i : Nat} (h : i < l.length) : (n ∈ l.drop i) = (l[i]! = n ∨ n ∈ l.drop (i + 1)) := by
  rw [List.drop_eq_getElem_cons h, getElem!_pos l i h, List.mem_cons]
  exact propext ⟨fun h => h.imp Eq.symm id, fun h => h.imp Eq.symm id⟩
theorem loop10 (l : List Int) (n : Int) (hl : l.length < 4611686018427387904) {Q : Ex → StW → Prop} : ∀ (r i : Nat) (a3 : AV) (lo : List (Nat × AV)), i + r = l.length →
    (n ∉ l.drop i → ∀ a3 lo, Q (.exit 0) ⟨⟨[.vs (ints l) l.length cap, .int .i64 n, .bool false, a3, .int .i64 l.length, .int .i64 l.length], lo, [], []⟩, []⟩) →
    (n ∈ l.drop i → ∀ a3 a5 lo, Q .ret ⟨⟨[.vs (ints l) l.length cap, .int .i64 n, .bool true, a3, .int .i64 l.length, a5], lo, [], []⟩, []⟩) →
    W M (.loop b10_0) ⟨⟨[.vs (ints l) l.length cap, .int .i64 n, .bool false, a3, .int .i64 l.length, .int .i64 i], lo, [], []⟩, []⟩ Q
  | 0, i, a3, lo, hi, h1, h2 => by
    obtain rfl : i = l.length := by omega
    refine W.loop ?_
    unfold b10_0
    repeat' first | apply W.seq | apply SQn | apply W.region | apply WO.nil | apply W.block | apply W.ret | apply W.exit | apply W.skip | apply SQr | apply SQe | apply BQn | apply BQr | apply BQe | (apply BQo; exact rfl) | apply LQe | apply LQr | (apply W.condT; exact rfl) | (apply W.condF; exact rfl) | (apply W.cond; exact rfl; all_goals intro _) | (apply WO.lss; exact rfl; exact rfl; all_goals first | (intro _; exfalso; omega) | intro _) | (apply WO.eql; exact rfl; exact rfl; all_goals first | (intro _; exfalso; omega) | intro _) | (apply WO.add; exact rfl; exact rfl; omega) | (apply WO.iav; exact rfl; exact rfl; omega) | (apply WO.ias; exact rfl; exact rfl; omega) | (apply WO.lda; exact rfl; exact fun _ => rfl; (first | omega | (simp only [List.length_set]; omega) | (simp; omega)); decide; exact rfl; case ia => infer_instance) | (apply WO.lsa; exact rfl; (first | exact rfl | assumption | exact at_new | (apply at_old; assumption) | (apply at_put; first | assumption | (simp only [put_length]; assumption))); exact fun _ => rfl; (first | omega | (simp only [List.length_set]; omega) | (simp; omega)); decide; exact rfl; case ia => infer_instance) | (apply WO.seql; exact rfl; exact rfl; all_goals first | (intro h; exact absurd h (by decide)) | (intro h; exact absurd rfl h) | (intro h; contradiction) | intro _) | (apply WO.hlv; exact rfl; exact rfl; exact rfl) | (apply WO.hpv; exact rfl; exact rfl; exact rfl) | (apply WO.hnv; exact rfl; exact rfl; exact rfl) | (apply WO.pl; exact rfl; exact rfl) | (apply WO.pp; exact rfl; exact rfl)
    exact h1 (by simp) _ _
  | r + 1, i, a3, lo, hi, h1, h2 => by
    have e := mem_drop (l := l) (n := n) (i := (i : Int).toNat) (by omega)
    rw [Int.toNat_natCast] at e
    rw [e] at h1 h2
    refine W.loop ?_
    unfold b10_0
    repeat' first | apply W.seq | apply SQn | apply W.region | apply WO.nil | apply W.block | apply W.ret | apply W.exit | apply W.skip | apply SQr | apply SQe | apply BQn | apply BQr | apply BQe | (apply BQo; exact rfl) | apply LQe | apply LQr | (apply W.condT; exact rfl) | (apply W.condF; exact rfl) | (apply W.cond; exact rfl; all_goals intro _) | (apply WO.lss; exact rfl; exact rfl; all_goals first | (intro _; exfalso; omega) | intro _) | (apply WO.eql; exact rfl; exact rfl; all_goals first | (intro _; exfalso; omega) | intro _) | (apply WO.add; exact rfl; exact rfl; omega) | (apply WO.iav; exact rfl; exact rfl; omega) | (apply WO.ias; exact rfl; exact rfl; omega) | (apply WO.lda; exact rfl; exact fun _ => rfl; (first | omega | (simp only [List.length_set]; omega) | (simp; omega)); decide; exact rfl; case ia => infer_instance) | (apply WO.lsa; exact rfl; (first | exact rfl | assumption | exact at_new | (apply at_old; assumption) | (apply at_put; first | assumption | (simp only [put_length]; assumption))); exact fun _ => rfl; (first | omega | (simp only [List.length_set]; omega) | (simp; omega)); decide; exact rfl; case ia => infer_instance) | (apply WO.seql; exact rfl; exact rfl; all_goals first | (intro h; exact absurd h (by decide)) | (intro h; exact absurd rfl h) | (intro h; contradiction) | intro _) | (apply WO.hlv; exact rfl; exact rfl; exact rfl) | (apply WO.hpv; exact rfl; exact rfl; exact rfl) | (apply WO.hnv; exact rfl; exact rfl; exact rfl) | (apply WO.pl; exact rfl; exact rfl) | (apply WO.pp; exact rfl; exact rfl)
    · rename_i he
      rw [Int.toNat_natCast] at he
      exact h2 (.inl he) _ _ _
    · rename_i he
      rw [Int.toNat_natCast] at he
      exact LQn (loop10 l n hl r (i + 1) _ _ (by omega) (fun h => h1 (fun h' => h'.elim he h)) (fun h => h2 (.inr h)))
theorem w10 (hft : M.FT = FT) (l : List Int) (n : Int) (hl : l.length < 4611686018427387904) : Run M 10 [.vs (ints l) l.length cap, .int .i64 n] [] ⟨.bool (decide (n ∈ l)), [], []⟩ := by
  refine run_of_W (by rw [hft]; exact ft10) (by simp) ?_
  unfold b10
  simp only [List.map_cons, List.map_nil, List.getElem?_cons_zero, List.getElem?_cons_succ, List.getElem?_nil, Option.getD_some, Option.getD_none]
  repeat' first | apply W.seq | apply SQn | apply W.region | apply WO.nil | apply W.block | apply W.ret | apply W.exit | apply W.skip | apply SQr | apply SQe | apply BQn | apply BQr | apply BQe | (apply BQo; exact rfl) | apply LQe | apply LQr | (apply W.condT; exact rfl) | (apply W.condF; exact rfl) | (apply W.cond; exact rfl; all_goals intro _) | (apply WO.pl; exact rfl; exact rfl) | (apply WO.pp; exact rfl; exact rfl)
  refine loop10 l n hl l.length 0 _ _ (by omega) (fun h a3 lo => ?_) (fun h a3 a5 lo => ?_)
  · repeat' first | apply W.seq | apply SQn | apply W.region | apply WO.nil | apply W.block | apply W.ret | apply W.exit | apply W.skip | apply SQr | apply SQe | apply BQn | apply BQr | apply BQe | (apply BQo; exact rfl) | apply LQe | apply LQr | (apply W.condT; exact rfl) | (apply W.condF; exact rfl) | (apply W.cond; exact rfl; all_goals intro _) | (apply WO.pl; exact rfl; exact rfl) | (apply WO.pp; exact rfl; exact rfl)
    exact ⟨.inr rfl, rfl, _, rfl, by rw [List.drop_zero] at h; rw [decide_eq_false h]; rfl, rfl⟩
  · repeat' first | apply W.seq | apply SQn | apply W.region | apply WO.nil | apply W.block | apply W.ret | apply W.exit | apply W.skip | apply SQr | apply SQe | apply BQn | apply BQr | apply BQe | (apply BQo; exact rfl) | apply LQe | apply LQr | (apply W.condT; exact rfl) | (apply W.condF; exact rfl) | (apply W.cond; exact rfl; all_goals intro _) | (apply WO.pl; exact rfl; exact rfl) | (apply WO.pp; exact rfl; exact rfl)
    exact ⟨.inr rfl, rfl, _, rfl, by rw [List.drop_zero] at h; rw [decide_eq_true h]; rfl, rfl⟩

/-! The plain law. -/
theorem idxP_shift (p : Int → Bool) (w : Nat) : ∀ (l : List Int) (i : Nat), idxP p l (i + w) = if idxP p l i < 0 then -1 else idxP p l i + w
  | [], i => by simp [idxP]
  | a :: l, i => by
    have ih := idxP_shift p w l (i + 1)
    rw [show i + 1 + w = i + w + 1 from by omega] at ih
    by_cases hp : p a = true
    · have e1 : idxP p (a :: l) i = i := if_pos hp
      have e2 : idxP p (a :: l) (i + w) = ((i + w : Nat) : Int) := if_pos hp
      rw [e1, e2, if_neg (by omega)]; omega
    · have e1 : idxP p (a :: l) i = idxP p l (i + 1) := if_neg hp
      have e2 : idxP p (a :: l) (i + w) = idxP p l (i + w + 1) := if_neg hp
      rw [e1, e2]; exact ih
theorem idxP_zeros (p : Int → Bool) (h0 : p 0 = false) (l : List Int) : ∀ (w i : Nat), idxP p (List.replicate w 0 ++ l) i = idxP p l (i + w)
  | 0, i => by simp
  | w + 1, i => by
    rw [List.replicate_succ, List.cons_append, idxP, h0, if_neg (by decide), idxP_zeros p h0 l w (i + 1), show i + 1 + w = i + (w + 1) from by omega]
theorem first_later (l : List Int) (w : Nat) : firstAt (List.replicate w 0 ++ l) 20 = if firstAt l 20 < 0 then -1 else firstAt l 20 + w := by
  unfold firstAt
  rw [idxP_zeros _ (by decide), idxP_shift]
theorem samples_later {l : List Int} {s t : Int} (w : Nat) (h : samplesE l s t = 0) (hl : l.length ≤ 30) (hw : w ≤ 100) : samplesE (List.replicate w 0 ++ l) s t = 0 := by
  unfold samplesE at h ⊢
  have ha : (List.replicate w (0 : Int) ++ l).any (fun x => outI x 0 999999999) = l.any (fun x => outI x 0 999999999) := by
    rw [List.any_append]
    have : (List.replicate w (0 : Int)).any (fun x => outI x 0 999999999) = false := by
      rw [List.any_eq_false]
      intro x hx
      rw [List.eq_of_mem_replicate hx]
      decide
    rw [this, Bool.false_or]
  rw [if_neg (by omega)] at h
  rw [ha, if_neg (by rw [List.length_append, List.length_replicate]; omega)]
  exact h
theorem first_lt (l : List Int) (t : Int) : firstAt l t = -1 ∨ (0 ≤ firstAt l t ∧ firstAt l t < l.length) := by
  have := idxP_lt (fun x => decide (t < x)) l 0
  unfold firstAt
  omega
theorem react0 {a b : Int} (ha : 0 ≤ a ∧ a ≤ 863999999) (hb : 0 ≤ b ∧ b ≤ 863999999) : reactE [a, b, -1] = 0 := by
  have h1 : outI a (-1) 863999999 = false := by simp [outI]; omega
  have h2 : outI b (-1) 863999999 = false := by simp [outI]; omega
  simp [reactE, h1, h2]
  decide
theorem lanes0 {a b : Int} (ha : 1000 ≤ a) (hb : 1000 ≤ b) : lanes [a, b, -1] 0 = [] := by
  simp [lanes, isF_f (x := a) (.inr ha), isF_f (x := b) (.inr hb), isF_f (x := -1) (.inl (by decide))]
theorem lanes1 {a b : Int} (ha : 0 ≤ a ∧ a < 1000) (hb : 1000 ≤ b) : lanes [a, b, -1] 0 = [1] := by
  simp [lanes, isF_t ha.1 ha.2, isF_f (x := b) (.inr hb), isF_f (x := -1) (.inl (by decide))]
theorem lanes2 {a b : Int} (ha : 0 ≤ a ∧ a < 1000) (hb : 0 ≤ b ∧ b < 1000) : lanes [a, b, -1] 0 = [1, 2] := by
  simp [lanes, isF_t ha.1 ha.2, isF_t hb.1 hb.2, isF_f (x := -1) (.inl (by decide))]

/-- Two reactions compared with the limit. -/
def cmpT (v : Int) : Int := if v < 1001 then -1 else if 1001 < v then 1 else 0
abbrev mkT (v : Int) : AV := .agg [.str [116, 105, 109, 101], .int .i64 v, .str []]

/-- What the law calls. -/
structure C3 (M : Mach) : Prop where
  ft : M.FT = FT
  c4 : ∀ l cap s t h, l.length < 1000000 → M.ext 4 [.vs (ints l) l.length cap, .int .i64 s, .int .i64 t] h = some ⟨.int .i64 (samplesE l s t), h, []⟩
  c5 : ∀ h, M.ext 5 [] h = some ⟨.bool true, h, []⟩
  c6 : ∀ v l s t h, intsAt h v = some l → l.length < 1000000 → M.ext 6 [v, .int .i64 s, .int .i64 t] h = some ⟨.tup [.int .i64 (if samplesE l s t ≠ 0 then 0 else if firstAt l t < 0 then 0 else firstAt l t * s), .int .i64 (if samplesE l s t ≠ 0 then samplesE l s t else if firstAt l t < 0 then 7 else 0)], h, []⟩
  c7n : ∀ v l h, intsAt h v = some l → l.length < 100000 → reactE l = 0 → lanes l 0 = [] → M.ext 7 [v] h = some ⟨.tup [.nilsl, .int .i64 0], h, []⟩
  c7s : ∀ v l h, intsAt h v = some l → l.length < 100000 → reactE l = 0 → lanes l 0 ≠ [] → M.ext 7 [v] h = some ⟨.tup [.sl h.length 0 (lanes l 0).length 1 none, .int .i64 0], h ++ [some (.cells (ints (lanes l 0)) 3)], []⟩
  c8 : ∀ v h, 1 ≤ v → v ≤ 863999999 → M.ext 8 [mkT v, mkT 1001] h = some ⟨.tup [.int .i64 (cmpT v), .int .i64 0], h, []⟩
  c9 : ∀ x y l m h, intsAt h x = some l → intsAt h y = some m → l.length < 4611686018427387904 → M.ext 9 [x, y] h = some ⟨.bool (decide (l = m)), h, []⟩
  c10 : ∀ x l n h, intsAt h x = some l → l.length < 4611686018427387904 → M.ext 10 [x, .int .i64 n] h = some ⟨.bool (decide (n ∈ l)), h, []⟩

def Ret3 (M : Mach) (l : List Int) (st by0 : Int) : Prop := Run M 3 [.vs (ints l) l.length none, .int .u8 st, .int .u8 by0] [] ⟨.bool true, [], []⟩
end Go.Ab.T5


/-
  Own work: the law TopStrideStarts: one of its cases.
-/
namespace Go.Ab.T5
variable {M : Mach}
set_option maxHeartbeats 8000000 in
theorem w3a (C : C3 M) (l : List Int) (st by0 : Int) (hs : 0 ≤ st ∧ st < 256) (hb : 0 ≤ by0 ∧ by0 < 256) (h30 : 30 < l.length) : Ret3 M l st by0 := by
  unfold Ret3
  have hEnd : ∀ s : StW, s.s.dfs = [] → s.s.pe[3]? = some (.bool true) → ((fun (e : Ex) (s : StW) => (e = .normal ∨ e = .ret) ∧ s.s.dfs = [] ∧ ∃ vs, resultsA s.s [.var (.p 3)] = some vs ∧ tupA vs = .bool true ∧ (if (AV.bool true).top ≤ 0 then [] else s.s.hp) = []) Ex.ret s) := fun s h1 h2 =>
    ⟨.inr rfl, h1, [.bool true], by simp only [resultsA, St.opd, h2], rfl, rfl⟩
  have q5 := C.c5
  refine run_of_W (by rw [C.ft]; exact ft3) (by simp) ?_
  unfold b3
  simp only [List.map_cons, List.map_nil, List.getElem?_cons_zero, List.getElem?_cons_succ, List.getElem?_nil, Option.getD_some, Option.getD_none]
  repeat' first | apply W.seq | apply SQn | apply W.region | apply WO.nil | apply W.block | apply W.ret | apply W.exit | apply W.skip | apply SQr | apply SQe | apply BQn | apply BQr | apply BQe | (apply BQo; exact rfl) | apply LQe | apply LQr | (apply W.condT; exact rfl) | (apply W.condF; exact rfl) | (apply W.cond; exact rfl; all_goals intro _) | (apply WO.gT; exact rfl) | (apply WO.gF; exact rfl) | (apply WO.sT; exact rfl) | (apply WO.sF; exact rfl) | (apply WO.sU; exact rfl) | (apply WO.lss; exact rfl; exact rfl; all_goals first | (intro _; exfalso; omega) | intro _) | (apply WO.gtr; exact rfl; exact rfl; all_goals first | (intro _; exfalso; omega) | intro _) | (apply WO.eql; exact rfl; exact rfl; all_goals first | (intro _; exfalso; omega) | intro _) | (apply WO.neq; exact rfl; exact rfl; all_goals first | (intro _; exfalso; omega) | intro _) | (apply WO.cvi; exact rfl; omega) | (apply WO.pkT; exact rfl; exact rfl) | (apply WO.pkF; exact rfl; exact rfl) | (apply WO.add; exact rfl; exact rfl; omega) | (apply WO.mul; exact rfl; exact rfl; omega) | (apply WO.remp; exact rfl; exact rfl; omega; intro _ _) | (apply WO.remn; exact rfl; exact rfl; omega; intro _ _) | (apply WO.rem; exact rfl; exact rfl; omega) | (apply WO.cll; exact rfl; exact rfl; first | exact q5 _) | (apply WO.mki; exact rfl; exact rfl; omega) | (apply WO.mkb; exact rfl; exact rfl; omega) | (apply WO.seql; exact rfl; exact rfl; all_goals first | (intro h; exact absurd h (by decide)) | (intro h; exact absurd rfl h) | (intro h; contradiction) | intro _) | (apply WO.sneq; exact rfl; exact rfl; all_goals first | (intro h; exact absurd h (by decide)) | (intro h; exact absurd rfl h) | (intro h; contradiction) | intro _) | (apply WO.clb; exact rfl; exact rfl; exact rfl; all_goals first | (intro h; exact absurd h (by decide)) | intro _) | (apply WO.cll; exact rfl; exact rfl; exact rfl) | (apply WO.hlv; exact rfl; exact rfl; exact rfl) | (apply WO.hpv; exact rfl; exact rfl; exact rfl) | (apply WO.hnv; exact rfl; exact rfl; exact rfl) | (apply WO.pl; exact rfl; exact rfl) | (apply WO.pp; exact rfl; exact rfl)
  all_goals exact hEnd _ rfl rfl
set_option maxHeartbeats 8000000 in
theorem w3b (C : C3 M) (l : List Int) (st by0 : Int) (hs : 0 ≤ st ∧ st < 256) (hb : 0 ≤ by0 ∧ by0 < 256) (h30 : ¬ 30 < l.length) (hE : ¬ samplesE l (1 + st) 20 = 0) : Ret3 M l st by0 := by
  unfold Ret3
  have hEnd : ∀ s : StW, s.s.dfs = [] → s.s.pe[3]? = some (.bool true) → ((fun (e : Ex) (s : StW) => (e = .normal ∨ e = .ret) ∧ s.s.dfs = [] ∧ ∃ vs, resultsA s.s [.var (.p 3)] = some vs ∧ tupA vs = .bool true ∧ (if (AV.bool true).top ≤ 0 then [] else s.s.hp) = []) Ex.ret s) := fun s h1 h2 =>
    ⟨.inr rfl, h1, [.bool true], by simp only [resultsA, St.opd, h2], rfl, rfl⟩
  have q5 := C.c5
  have q4 := fun h => C.c4 l none (1 + st) 20 h (by omega)
  refine run_of_W (by rw [C.ft]; exact ft3) (by simp) ?_
  generalize samplesE l (1 + st) 20 = E at *
  unfold b3
  simp only [List.map_cons, List.map_nil, List.getElem?_cons_zero, List.getElem?_cons_succ, List.getElem?_nil, Option.getD_some, Option.getD_none]
  repeat' first | apply W.seq | apply SQn | apply W.region | apply WO.nil | apply W.block | apply W.ret | apply W.exit | apply W.skip | apply SQr | apply SQe | apply BQn | apply BQr | apply BQe | (apply BQo; exact rfl) | apply LQe | apply LQr | (apply W.condT; exact rfl) | (apply W.condF; exact rfl) | (apply W.cond; exact rfl; all_goals intro _) | (apply WO.gT; exact rfl) | (apply WO.gF; exact rfl) | (apply WO.sT; exact rfl) | (apply WO.sF; exact rfl) | (apply WO.sU; exact rfl) | (apply WO.lss; exact rfl; exact rfl; all_goals first | (intro _; exfalso; omega) | intro _) | (apply WO.gtr; exact rfl; exact rfl; all_goals first | (intro _; exfalso; omega) | intro _) | (apply WO.eql; exact rfl; exact rfl; all_goals first | (intro _; exfalso; omega) | intro _) | (apply WO.neq; exact rfl; exact rfl; all_goals first | (intro _; exfalso; omega) | intro _) | (apply WO.cvi; exact rfl; omega) | (apply WO.pkT; exact rfl; exact rfl) | (apply WO.pkF; exact rfl; exact rfl) | (apply WO.add; exact rfl; exact rfl; omega) | (apply WO.mul; exact rfl; exact rfl; omega) | (apply WO.remp; exact rfl; exact rfl; omega; intro _ _) | (apply WO.remn; exact rfl; exact rfl; omega; intro _ _) | (apply WO.rem; exact rfl; exact rfl; omega) | (apply WO.cll; exact rfl; exact rfl; first | exact q4 _ | exact q5 _) | (apply WO.mki; exact rfl; exact rfl; omega) | (apply WO.mkb; exact rfl; exact rfl; omega) | (apply WO.seql; exact rfl; exact rfl; all_goals first | (intro h; exact absurd h (by decide)) | (intro h; exact absurd rfl h) | (intro h; contradiction) | intro _) | (apply WO.sneq; exact rfl; exact rfl; all_goals first | (intro h; exact absurd h (by decide)) | (intro h; exact absurd rfl h) | (intro h; contradiction) | intro _) | (apply WO.clb; exact rfl; exact rfl; exact rfl; all_goals first | (intro h; exact absurd h (by decide)) | intro _) | (apply WO.cll; exact rfl; exact rfl; exact rfl) | (apply WO.hlv; exact rfl; exact rfl; exact rfl) | (apply WO.hpv; exact rfl; exact rfl; exact rfl) | (apply WO.hnv; exact rfl; exact rfl; exact rfl) | (apply WO.pl; exact rfl; exact rfl) | (apply WO.pp; exact rfl; exact rfl)
  all_goals exact hEnd _ rfl rfl
end Go.Ab.T5


/-
  Own work: the law TopStrideStarts: one of its cases.
-/
namespace Go.Ab.T5
variable {M : Mach}
set_option maxHeartbeats 8000000 in
theorem w3c (C : C3 M) (l : List Int) (st by0 : Int) (hs : 0 ≤ st ∧ st < 256) (hb : 0 ≤ by0 ∧ by0 < 256) (h30 : ¬ 30 < l.length) (hE : samplesE l (1 + st) 20 = 0) (hF : firstAt l 20 < 0) (h0 : l = []) : Ret3 M l st by0 := by
  unfold Ret3
  have hEnd : ∀ s : StW, s.s.dfs = [] → s.s.pe[3]? = some (.bool true) → ((fun (e : Ex) (s : StW) => (e = .normal ∨ e = .ret) ∧ s.s.dfs = [] ∧ ∃ vs, resultsA s.s [.var (.p 3)] = some vs ∧ tupA vs = .bool true ∧ (if (AV.bool true).top ≤ 0 then [] else s.s.hp) = []) Ex.ret s) := fun s h1 h2 =>
    ⟨.inr rfl, h1, [.bool true], by simp only [resultsA, St.opd, h2], rfl, rfl⟩
  have q5 := C.c5
  have q4 := fun h => C.c4 l none (1 + st) 20 h (by omega)
  rw [hE] at q4
  have hw : 0 ≤ by0 % 20 ∧ by0 % 20 < 20 := ⟨Int.emod_nonneg _ (by decide), Int.emod_lt_of_pos _ (by decide)⟩
  have hE2 := samples_later (by0 % 20).toNat hE (by omega) (by omega)
  have hF2 := first_later l (by0 % 20).toNat
  have hFl := first_lt l 20
  have q6 : ∀ h, M.ext 6 [.vs (ints l) l.length none, .int .i64 (1 + st), .int .i64 20] h = some ⟨.tup [.int .i64 (if firstAt l 20 < 0 then 0 else firstAt l 20 * (1 + st)), .int .i64 (if firstAt l 20 < 0 then 7 else 0)], h, []⟩ := fun h => by
    rw [C.c6 _ l _ _ _ (intsAt_vs ..) (by omega), if_neg (fun h : samplesE l (1 + st) 20 ≠ 0 => h hE), if_neg (fun h : samplesE l (1 + st) 20 ≠ 0 => h hE)]
  have q6b : ∀ v h, intsAt h v = some (List.replicate (by0 % 20).toNat 0 ++ l) → M.ext 6 [v, .int .i64 (1 + st), .int .i64 20] h = some ⟨.tup [.int .i64 (if firstAt l 20 < 0 then 0 else firstAt l 20 * (1 + st) + by0 % 20 * (1 + st)), .int .i64 (if firstAt l 20 < 0 then 7 else 0)], h, []⟩ := fun v h hv => by
    rw [C.c6 _ _ _ _ _ hv (by rw [List.length_append, List.length_replicate]; omega), if_neg (fun h : samplesE (List.replicate (by0 % 20).toNat 0 ++ l) (1 + st) 20 ≠ 0 => h hE2), if_neg (fun h : samplesE (List.replicate (by0 % 20).toNat 0 ++ l) (1 + st) 20 ≠ 0 => h hE2), hF2]
    by_cases hF : firstAt l 20 < 0
    · simp only [if_pos hF]; rfl
    · rw [if_neg hF, if_neg (by omega), if_neg (by omega), if_neg hF, if_neg hF, Int.add_mul, Int.toNat_of_nonneg hw.1]
  have z0 : sliceCells ([] ++ [some (Blk.cells (arr (fun x => [AV.int .i64 x]) (List.replicate (by0 % 20).toNat 0)) 3)]) (.vs (ints l) l.length none) = some (ints l, l.length) := rfl
  have zl : (ints l).length = l.length * 1 := arr_length (f := fun x : Int => [AV.int .i64 x]) (esz := 1) (fun _ => rfl) l
  have zo : (ints l).all oneA = true := one_arr (fun _ => rfl) l
  have zz : (arr (fun x => [AV.int .i64 x]) (List.replicate (by0 % 20).toNat 0)).length = (by0 % 20).toNat * 1 := by
    rw [arr_length (f := fun x : Int => [AV.int .i64 x]) (esz := 1) (fun _ => rfl), List.length_replicate]
  have za : arr (fun x => [AV.int .i64 x]) (List.replicate (by0 % 20).toNat 0) ++ ints l = ints (List.replicate (by0 % 20).toNat 0 ++ l) := by simp [ints, arr]
  refine run_of_W (by rw [C.ft]; exact ft3) (by simp) ?_
  rw [if_pos hF, if_pos hF] at q6
  simp only [if_pos hF] at q6b
  subst h0
  have qb := q6b (.sl 0 0 (by0 % 20).toNat 1 (some (by0 % 20).toNat)) ([] ++ [some (Blk.cells (arr (fun x => [AV.int .i64 x]) (List.replicate (by0 % 20).toNat 0)) 3)]) (by rw [List.append_nil]; exact ints_at rfl (by simp))
  unfold b3
  simp only [List.map_cons, List.map_nil, List.getElem?_cons_zero, List.getElem?_cons_succ, List.getElem?_nil, Option.getD_some, Option.getD_none]
  repeat' first | (refine WO.ap0 rfl rfl rfl (by decide) ?_) | apply W.seq | apply SQn | apply W.region | apply WO.nil | apply W.block | apply W.ret | apply W.exit | apply W.skip | apply SQr | apply SQe | apply BQn | apply BQr | apply BQe | (apply BQo; exact rfl) | apply LQe | apply LQr | (apply W.condT; exact rfl) | (apply W.condF; exact rfl) | (apply W.cond; exact rfl; all_goals intro _) | (apply WO.gT; exact rfl) | (apply WO.gF; exact rfl) | (apply WO.sT; exact rfl) | (apply WO.sF; exact rfl) | (apply WO.sU; exact rfl) | (apply WO.lss; exact rfl; exact rfl; all_goals first | (intro _; exfalso; omega) | intro _) | (apply WO.gtr; exact rfl; exact rfl; all_goals first | (intro _; exfalso; omega) | intro _) | (apply WO.eql; exact rfl; exact rfl; all_goals first | (intro _; exfalso; omega) | intro _) | (apply WO.neq; exact rfl; exact rfl; all_goals first | (intro _; exfalso; omega) | intro _) | (apply WO.cvi; exact rfl; omega) | (apply WO.pkT; exact rfl; exact rfl) | (apply WO.pkF; exact rfl; exact rfl) | (apply WO.add; exact rfl; exact rfl; omega) | (apply WO.mul; exact rfl; exact rfl; omega) | (apply WO.remp; exact rfl; exact rfl; omega; intro _ _) | (apply WO.remn; exact rfl; exact rfl; omega; intro _ _) | (apply WO.rem; exact rfl; exact rfl; omega) | (apply WO.cll; exact rfl; exact rfl; first | exact q4 _ | exact q5 _ | exact q6 _ | exact qb) | (apply WO.mki; exact rfl; exact rfl; omega) | (apply WO.mkb; exact rfl; exact rfl; omega) | (apply WO.seql; exact rfl; exact rfl; all_goals first | (intro h; exact absurd h (by decide)) | (intro h; exact absurd rfl h) | (intro h; contradiction) | intro _) | (apply WO.sneq; exact rfl; exact rfl; all_goals first | (intro h; exact absurd h (by decide)) | (intro h; exact absurd rfl h) | (intro h; contradiction) | intro _) | (apply WO.clb; exact rfl; exact rfl; exact rfl; all_goals first | (intro h; exact absurd h (by decide)) | intro _) | (apply WO.cll; exact rfl; exact rfl; exact rfl) | (apply WO.hlv; exact rfl; exact rfl; exact rfl) | (apply WO.hpv; exact rfl; exact rfl; exact rfl) | (apply WO.hnv; exact rfl; exact rfl; exact rfl) | (apply WO.pl; exact rfl; exact rfl) | (apply WO.pp; exact rfl; exact rfl)
  all_goals exact hEnd _ rfl rfl
set_option maxHeartbeats 8000000 in
theorem w3d (C : C3 M) (l : List Int) (st by0 : Int) (hs : 0 ≤ st ∧ st < 256) (hb : 0 ≤ by0 ∧ by0 < 256) (h30 : ¬ 30 < l.length) (hE : samplesE l (1 + st) 20 = 0) (hF : firstAt l 20 < 0) (h0 : ¬ l = []) : Ret3 M l st by0 := by
  unfold Ret3
  have hEnd : ∀ s : StW, s.s.dfs = [] → s.s.pe[3]? = some (.bool true) → ((fun (e : Ex) (s : StW) => (e = .normal ∨ e = .ret) ∧ s.s.dfs = [] ∧ ∃ vs, resultsA s.s [.var (.p 3)] = some vs ∧ tupA vs = .bool true ∧ (if (AV.bool true).top ≤ 0 then [] else s.s.hp) = []) Ex.ret s) := fun s h1 h2 =>
    ⟨.inr rfl, h1, [.bool true], by simp only [resultsA, St.opd, h2], rfl, rfl⟩
  have q5 := C.c5
  have q4 := fun h => C.c4 l none (1 + st) 20 h (by omega)
  rw [hE] at q4
  have hw : 0 ≤ by0 % 20 ∧ by0 % 20 < 20 := ⟨Int.emod_nonneg _ (by decide), Int.emod_lt_of_pos _ (by decide)⟩
  have hE2 := samples_later (by0 % 20).toNat hE (by omega) (by omega)
  have hF2 := first_later l (by0 % 20).toNat
  have hFl := first_lt l 20
  have q6 : ∀ h, M.ext 6 [.vs (ints l) l.length none, .int .i64 (1 + st), .int .i64 20] h = some ⟨.tup [.int .i64 (if firstAt l 20 < 0 then 0 else firstAt l 20 * (1 + st)), .int .i64 (if firstAt l 20 < 0 then 7 else 0)], h, []⟩ := fun h => by
    rw [C.c6 _ l _ _ _ (intsAt_vs ..) (by omega), if_neg (fun h : samplesE l (1 + st) 20 ≠ 0 => h hE), if_neg (fun h : samplesE l (1 + st) 20 ≠ 0 => h hE)]
  have q6b : ∀ v h, intsAt h v = some (List.replicate (by0 % 20).toNat 0 ++ l) → M.ext 6 [v, .int .i64 (1 + st), .int .i64 20] h = some ⟨.tup [.int .i64 (if firstAt l 20 < 0 then 0 else firstAt l 20 * (1 + st) + by0 % 20 * (1 + st)), .int .i64 (if firstAt l 20 < 0 then 7 else 0)], h, []⟩ := fun v h hv => by
    rw [C.c6 _ _ _ _ _ hv (by rw [List.length_append, List.length_replicate]; omega), if_neg (fun h : samplesE (List.replicate (by0 % 20).toNat 0 ++ l) (1 + st) 20 ≠ 0 => h hE2), if_neg (fun h : samplesE (List.replicate (by0 % 20).toNat 0 ++ l) (1 + st) 20 ≠ 0 => h hE2), hF2]
    by_cases hF : firstAt l 20 < 0
    · simp only [if_pos hF]; rfl
    · rw [if_neg hF, if_neg (by omega), if_neg (by omega), if_neg hF, if_neg hF, Int.add_mul, Int.toNat_of_nonneg hw.1]
  have z0 : sliceCells ([] ++ [some (Blk.cells (arr (fun x => [AV.int .i64 x]) (List.replicate (by0 % 20).toNat 0)) 3)]) (.vs (ints l) l.length none) = some (ints l, l.length) := rfl
  have zl : (ints l).length = l.length * 1 := arr_length (f := fun x : Int => [AV.int .i64 x]) (esz := 1) (fun _ => rfl) l
  have zo : (ints l).all oneA = true := one_arr (fun _ => rfl) l
  have zz : (arr (fun x => [AV.int .i64 x]) (List.replicate (by0 % 20).toNat 0)).length = (by0 % 20).toNat * 1 := by
    rw [arr_length (f := fun x : Int => [AV.int .i64 x]) (esz := 1) (fun _ => rfl), List.length_replicate]
  have za : arr (fun x => [AV.int .i64 x]) (List.replicate (by0 % 20).toNat 0) ++ ints l = ints (List.replicate (by0 % 20).toNat 0 ++ l) := by simp [ints, arr]
  refine run_of_W (by rw [C.ft]; exact ft3) (by simp) ?_
  rw [if_pos hF, if_pos hF] at q6
  simp only [if_pos hF] at q6b
  have h1 : 0 < l.length := List.length_pos_iff.2 h0
  have qb := q6b (.sl 1 0 ((by0 % 20).toNat + l.length) 1 none) ([] ++ [some (Blk.cells (arr (fun x => [AV.int .i64 x]) (List.replicate (by0 % 20).toNat 0)) 3)] ++ [some (Blk.cells (ints (List.replicate (by0 % 20).toNat 0 ++ l)) 3)]) (ints_at rfl (by simp))
  unfold b3
  simp only [List.map_cons, List.map_nil, List.getElem?_cons_zero, List.getElem?_cons_succ, List.getElem?_nil, Option.getD_some, Option.getD_none]
  repeat' first | (refine WO.apg rfl rfl rfl zz z0 ⟨zl, by decide, zo⟩ ⟨h1, by simp only [roomLimit]; omega⟩ za ?_) | apply W.seq | apply SQn | apply W.region | apply WO.nil | apply W.block | apply W.ret | apply W.exit | apply W.skip | apply SQr | apply SQe | apply BQn | apply BQr | apply BQe | (apply BQo; exact rfl) | apply LQe | apply LQr | (apply W.condT; exact rfl) | (apply W.condF; exact rfl) | (apply W.cond; exact rfl; all_goals intro _) | (apply WO.gT; exact rfl) | (apply WO.gF; exact rfl) | (apply WO.sT; exact rfl) | (apply WO.sF; exact rfl) | (apply WO.sU; exact rfl) | (apply WO.lss; exact rfl; exact rfl; all_goals first | (intro _; exfalso; omega) | intro _) | (apply WO.gtr; exact rfl; exact rfl; all_goals first | (intro _; exfalso; omega) | intro _) | (apply WO.eql; exact rfl; exact rfl; all_goals first | (intro _; exfalso; omega) | intro _) | (apply WO.neq; exact rfl; exact rfl; all_goals first | (intro _; exfalso; omega) | intro _) | (apply WO.cvi; exact rfl; omega) | (apply WO.pkT; exact rfl; exact rfl) | (apply WO.pkF; exact rfl; exact rfl) | (apply WO.add; exact rfl; exact rfl; omega) | (apply WO.mul; exact rfl; exact rfl; omega) | (apply WO.remp; exact rfl; exact rfl; omega; intro _ _) | (apply WO.remn; exact rfl; exact rfl; omega; intro _ _) | (apply WO.rem; exact rfl; exact rfl; omega) | (apply WO.cll; exact rfl; exact rfl; first | exact q4 _ | exact q5 _ | exact q6 _ | exact qb) | (apply WO.mki; exact rfl; exact rfl; omega) | (apply WO.mkb; exact rfl; exact rfl; omega) | (apply WO.seql; exact rfl; exact rfl; all_goals first | (intro h; exact absurd h (by decide)) | (intro h; exact absurd rfl h) | (intro h; contradiction) | intro _) | (apply WO.sneq; exact rfl; exact rfl; all_goals first | (intro h; exact absurd h (by decide)) | (intro h; exact absurd rfl h) | (intro h; contradiction) | intro _) | (apply WO.clb; exact rfl; exact rfl; exact rfl; all_goals first | (intro h; exact absurd h (by decide)) | intro _) | (apply WO.cll; exact rfl; exact rfl; exact rfl) | (apply WO.hlv; exact rfl; exact rfl; exact rfl) | (apply WO.hpv; exact rfl; exact rfl; exact rfl) | (apply WO.hnv; exact rfl; exact rfl; exact rfl) | (apply WO.pl; exact rfl; exact rfl) | (apply WO.pp; exact rfl; exact rfl)
  all_goals exact hEnd _ rfl rfl
end Go.Ab.T5


/-
  Own work: TopStrideStarts: the loop that compares two reactions with the limit.
-/
namespace Go.Ab.T5
variable {M : Mach}

theorem out3 {k : Nat} {w : AV} {hp : Heap} {Q : Ex → StW → Prop} (a0 a1 a2 a4 a5 a6 a7 a8 a9 a10 a11 a13 a14 a15 a16 : AV) (lo : List (Nat × AV)) (wr : List Nat) (hQ : ∀ lo, Q (.exit 0) ⟨⟨[a0, a1, a2, .bool false, a4, a5, a6, a7, a8, a9, a10, a11, w, a13, a14, a15, a16, .sl k 0 2 1 (some 2), .int .i64 2, .int .i64 2], lo, hp, []⟩, wr⟩) : W M (.loop b3_0) ⟨⟨[a0, a1, a2, .bool false, a4, a5, a6, a7, a8, a9, a10, a11, w, a13, a14, a15, a16, .sl k 0 2 1 (some 2), .int .i64 2, .int .i64 2], lo, hp, []⟩, wr⟩ Q := by
  refine W.loop ?_
  unfold b3_0
  repeat' first | apply W.seq | apply SQn | apply W.region | apply WO.nil | apply W.block | apply W.ret | apply W.exit | apply W.skip | apply SQr | apply SQe | apply BQn | apply BQr | apply BQe | (apply BQo; exact rfl) | apply LQe | apply LQr | (apply W.condT; exact rfl) | (apply W.condF; exact rfl) | (apply W.cond; exact rfl; all_goals intro _) | (apply WO.lss; exact rfl; exact rfl; all_goals first | (intro _; exfalso; omega) | intro _) | (apply WO.neq; exact rfl; exact rfl; all_goals first | (intro _; exfalso; omega) | intro _) | (apply WO.add; exact rfl; exact rfl; omega) | (apply WO.iav; exact rfl; exact rfl; omega) | (apply WO.ias; exact rfl; exact rfl; omega) | (apply WO.lda; exact rfl; exact fun _ => rfl; (first | omega | (simp only [List.length_set]; omega) | (simp; omega)); decide; exact rfl; case ia => infer_instance) | (apply WO.lsa; exact rfl; (first | exact rfl | assumption | exact at_new | (apply at_old; assumption) | (apply at_put; first | assumption | (simp only [put_length]; assumption))); exact fun _ => rfl; (first | omega | (simp only [List.length_set]; omega) | (simp; omega)); decide; exact rfl; case ia => infer_instance) | (apply WO.sneq; exact rfl; exact rfl; all_goals first | (intro h; exact absurd h (by decide)) | (intro h; exact absurd rfl h) | (intro h; contradiction) | intro _) | (apply WO.clb; exact rfl; exact rfl; exact rfl; all_goals first | (intro h; exact absurd h (by decide)) | intro _) | (apply WO.cll; exact rfl; exact rfl; exact rfl) | (apply WO.hlv; exact rfl; exact rfl; exact rfl) | (apply WO.hpv; exact rfl; exact rfl; exact rfl) | (apply WO.hnv; exact rfl; exact rfl; exact rfl) | (apply WO.pl; exact rfl; exact rfl) | (apply WO.pp; exact rfl; exact rfl)
  exact hQ _
theorem iterN {k i : Nat} {w : AV} {hp : Heap} {A B g : Int} {Q : Ex → StW → Prop} (a0 a1 a2 a4 a5 a6 a7 a8 a9 a10 a11 a13 a14 a15 a16 : AV) (lo : List (Nat × AV)) (wr : List Nat) (hi : i < 2) (hk : hp.at k = some (.cells (ints [A, B]) 3)) (hb : 0 ≤ [A, B][i]! ∧ [A, B][i]! ≤ 100000000)
    (hq : ∀ h, M.ext 8 [mkT ([A, B][i]! + 1), mkT 1001] h = some ⟨.tup [.int .i64 g, .int .i64 0], h, []⟩) (hg : 0 ≤ g) (hQ : ∀ a13 a14 a15 a16 lo, W M (.loop b3_0) ⟨⟨[a0, a1, a2, .bool false, a4, a5, a6, a7, a8, a9, a10, a11, w, a13, a14, a15, a16, .sl k 0 2 1 (some 2), .int .i64 2, .int .i64 ((i : Nat) + 1 : Int)], lo, hp, []⟩, wr⟩ Q) : W M (.loop b3_0) ⟨⟨[a0, a1, a2, .bool false, a4, a5, a6, a7, a8, a9, a10, a11, w, a13, a14, a15, a16, .sl k 0 2 1 (some 2), .int .i64 2, .int .i64 i], lo, hp, []⟩, wr⟩ Q := by
  have hlen : [A, B].length = 2 := rfl
  have hq' : ∀ h, M.ext 8 [mkT ([A, B][((i : Int)).toNat]! + 1), mkT 1001] h = some ⟨.tup [.int .i64 g, .int .i64 0], h, []⟩ := by rw [Int.toNat_natCast]; exact hq
  have hb' : 0 ≤ [A, B][((i : Int)).toNat]! ∧ [A, B][((i : Int)).toNat]! ≤ 100000000 := by rw [Int.toNat_natCast]; exact hb
  refine W.loop ?_
  unfold b3_0
  repeat' first | apply W.seq | apply SQn | apply W.region | apply WO.nil | apply W.block | apply W.ret | apply W.exit | apply W.skip | apply SQr | apply SQe | apply BQn | apply BQr | apply BQe | (apply BQo; exact rfl) | apply LQe | apply LQr | (apply W.condT; exact rfl) | (apply W.condF; exact rfl) | (apply W.cond; exact rfl; all_goals intro _) | (apply WO.lss; exact rfl; exact rfl; all_goals first | (intro _; exfalso; omega) | intro _) | (apply WO.neq; exact rfl; exact rfl; all_goals first | (intro _; exfalso; omega) | intro _) | (apply WO.add; exact rfl; exact rfl; omega) | (apply WO.cll; exact rfl; exact rfl; first | exact hq' _) | (apply WO.iav; exact rfl; exact rfl; omega) | (apply WO.ias; exact rfl; exact rfl; omega) | (apply WO.lda; exact rfl; exact fun _ => rfl; (first | omega | (simp only [List.length_set]; omega) | (simp; omega)); decide; exact rfl; case ia => infer_instance) | (apply WO.lsa; exact rfl; (first | exact rfl | assumption | exact at_new | (apply at_old; assumption) | (apply at_put; first | assumption | (simp only [put_length]; assumption))); exact fun _ => rfl; (first | omega | (simp only [List.length_set]; omega) | (simp; omega)); decide; exact rfl; case ia => infer_instance) | (apply WO.sneq; exact rfl; exact rfl; all_goals first | (intro h; exact absurd h (by decide)) | (intro h; exact absurd rfl h) | (intro h; contradiction) | intro _) | (apply WO.clb; exact rfl; exact rfl; exact rfl; all_goals first | (intro h; exact absurd h (by decide)) | intro _) | (apply WO.cll; exact rfl; exact rfl; exact rfl) | (apply WO.hlv; exact rfl; exact rfl; exact rfl) | (apply WO.hpv; exact rfl; exact rfl; exact rfl) | (apply WO.hnv; exact rfl; exact rfl; exact rfl) | (apply WO.pl; exact rfl; exact rfl) | (apply WO.pp; exact rfl; exact rfl)
  exact LQn (hQ _ _ _ _ _)
theorem iterP {k i : Nat} {hp : Heap} {A B : Int} {Q : Ex → StW → Prop} (a0 a1 a2 a4 a5 a6 a7 a8 a9 a10 a11 a13 a14 a15 a16 : AV) (lo : List (Nat × AV)) (wr : List Nat) (hi : i < 2) (hk : hp.at k = some (.cells (ints [A, B]) 3)) (hb : 0 ≤ [A, B][i]! ∧ [A, B][i]! ≤ 100000000)
    (hq : ∀ h, M.ext 8 [mkT ([A, B][i]! + 1), mkT 1001] h = some ⟨.tup [.int .i64 (-1), .int .i64 0], h, []⟩) (hQ : ∀ a13 a14 a15 a16 lo, W M (.loop b3_0) ⟨⟨[a0, a1, a2, .bool false, a4, a5, a6, a7, a8, a9, a10, a11, (.sl (hp ++ [some (Blk.cells [.int .i64 ((i : Int) + 1)] 3)]).length 0 1 1 none), a13, a14, a15, a16, .sl k 0 2 1 (some 2), .int .i64 2, .int .i64 ((i : Nat) + 1 : Int)], lo, hp ++ [some (Blk.cells [.int .i64 ((i : Int) + 1)] 3)] ++ [some (Blk.cells [.int .i64 ((i : Int) + 1)] 3)], []⟩, wr⟩ Q) : W M (.loop b3_0) ⟨⟨[a0, a1, a2, .bool false, a4, a5, a6, a7, a8, a9, a10, a11, .nilsl, a13, a14, a15, a16, .sl k 0 2 1 (some 2), .int .i64 2, .int .i64 i], lo, hp, []⟩, wr⟩ Q := by
  have hlen : [A, B].length = 2 := rfl
  have hq' : ∀ h, M.ext 8 [mkT ([A, B][((i : Int)).toNat]! + 1), mkT 1001] h = some ⟨.tup [.int .i64 (-1), .int .i64 0], h, []⟩ := by rw [Int.toNat_natCast]; exact hq
  have hb' : 0 ≤ [A, B][((i : Int)).toNat]! ∧ [A, B][((i : Int)).toNat]! ≤ 100000000 := by rw [Int.toNat_natCast]; exact hb
  have hs : ∀ h : Heap, sliceCells (h ++ [some (Blk.cells [.int .i64 ((i : Int) + 1)] 3)]) (.sl h.length 0 1 1 (some 1)) = some ([.int .i64 ((i : Int) + 1)], 1) := fun h => by simp [sliceCells, at_new, cut]
  refine W.loop ?_
  unfold b3_0
  repeat' first | (apply WO.apn; exact rfl; exact rfl; exact hs _; exact ⟨rfl, by decide, rfl⟩; exact ⟨by decide, by decide⟩) | apply W.seq | apply SQn | apply W.region | apply WO.nil | apply W.block | apply W.ret | apply W.exit | apply W.skip | apply SQr | apply SQe | apply BQn | apply BQr | apply BQe | (apply BQo; exact rfl) | apply LQe | apply LQr | (apply W.condT; exact rfl) | (apply W.condF; exact rfl) | (apply W.cond; exact rfl; all_goals intro _) | (apply WO.lss; exact rfl; exact rfl; all_goals first | (intro _; exfalso; omega) | intro _) | (apply WO.neq; exact rfl; exact rfl; all_goals first | (intro _; exfalso; omega) | intro _) | (apply WO.add; exact rfl; exact rfl; omega) | (apply WO.cll; exact rfl; exact rfl; first | exact hq' _) | (apply WO.iav; exact rfl; exact rfl; omega) | (apply WO.ias; exact rfl; exact rfl; omega) | (apply WO.lda; exact rfl; exact fun _ => rfl; (first | omega | (simp only [List.length_set]; omega) | (simp; omega)); decide; exact rfl; case ia => infer_instance) | (apply WO.lsa; exact rfl; (first | exact rfl | assumption | exact at_new | (apply at_old; assumption) | (apply at_put; first | assumption | (simp only [put_length]; assumption))); exact fun _ => rfl; (first | omega | (simp only [List.length_set]; omega) | (simp; omega)); decide; exact rfl; case ia => infer_instance) | (apply WO.sneq; exact rfl; exact rfl; all_goals first | (intro h; exact absurd h (by decide)) | (intro h; exact absurd rfl h) | (intro h; contradiction) | intro _) | (apply WO.clb; exact rfl; exact rfl; exact rfl; all_goals first | (intro h; exact absurd h (by decide)) | intro _) | (apply WO.cll; exact rfl; exact rfl; exact rfl) | (apply WO.hlv; exact rfl; exact rfl; exact rfl) | (apply WO.hpv; exact rfl; exact rfl; exact rfl) | (apply WO.hnv; exact rfl; exact rfl; exact rfl) | (apply WO.pl; exact rfl; exact rfl) | (apply WO.pp; exact rfl; exact rfl)
  exact LQn (hQ _ _ _ _ _)
theorem iterQ {k i c : Nat} {x : Int} {hp : Heap} {A B : Int} {Q : Ex → StW → Prop} (a0 a1 a2 a4 a5 a6 a7 a8 a9 a10 a11 a13 a14 a15 a16 : AV) (lo : List (Nat × AV)) (wr : List Nat) (hi : i < 2) (hk : hp.at k = some (.cells (ints [A, B]) 3)) (hc : hp.at c = some (.cells [.int .i64 x] 3)) (hb : 0 ≤ [A, B][i]! ∧ [A, B][i]! ≤ 100000000)
    (hq : ∀ h, M.ext 8 [mkT ([A, B][i]! + 1), mkT 1001] h = some ⟨.tup [.int .i64 (-1), .int .i64 0], h, []⟩) (hQ : ∀ a13 a14 a15 a16 lo wr, W M (.loop b3_0) ⟨⟨[a0, a1, a2, .bool false, a4, a5, a6, a7, a8, a9, a10, a11, (.sl (hp ++ [some (Blk.cells [.int .i64 ((i : Int) + 1)] 3)]).length 0 2 1 none), a13, a14, a15, a16, .sl k 0 2 1 (some 2), .int .i64 2, .int .i64 ((i : Nat) + 1 : Int)], lo, (hp ++ [some (Blk.cells [.int .i64 ((i : Int) + 1)] 3)]).put c none ++ [some (Blk.cells [.int .i64 x, .int .i64 ((i : Int) + 1)] 3)], []⟩, wr⟩ Q) : W M (.loop b3_0) ⟨⟨[a0, a1, a2, .bool false, a4, a5, a6, a7, a8, a9, a10, a11, (.sl c 0 1 1 none), a13, a14, a15, a16, .sl k 0 2 1 (some 2), .int .i64 2, .int .i64 i], lo, hp, []⟩, wr⟩ Q := by
  have hlen : [A, B].length = 2 := rfl
  have hq' : ∀ h, M.ext 8 [mkT ([A, B][((i : Int)).toNat]! + 1), mkT 1001] h = some ⟨.tup [.int .i64 (-1), .int .i64 0], h, []⟩ := by rw [Int.toNat_natCast]; exact hq
  have hb' : 0 ≤ [A, B][((i : Int)).toNat]! ∧ [A, B][((i : Int)).toNat]! ≤ 100000000 := by rw [Int.toNat_natCast]; exact hb
  have hs : ∀ h : Heap, sliceCells (h ++ [some (Blk.cells [.int .i64 ((i : Int) + 1)] 3)]) (.sl h.length 0 1 1 (some 1)) = some ([.int .i64 ((i : Int) + 1)], 1) := fun h => by simp [sliceCells, at_new, cut]
  refine W.loop ?_
  unfold b3_0
  repeat' first | (apply WO.apo; exact rfl; exact rfl; exact hs _; exact ⟨rfl, by decide, rfl⟩; exact ⟨by decide, by decide⟩; exact at_old hc; exact rfl) | apply W.seq | apply SQn | apply W.region | apply WO.nil | apply W.block | apply W.ret | apply W.exit | apply W.skip | apply SQr | apply SQe | apply BQn | apply BQr | apply BQe | (apply BQo; exact rfl) | apply LQe | apply LQr | (apply W.condT; exact rfl) | (apply W.condF; exact rfl) | (apply W.cond; exact rfl; all_goals intro _) | (apply WO.lss; exact rfl; exact rfl; all_goals first | (intro _; exfalso; omega) | intro _) | (apply WO.neq; exact rfl; exact rfl; all_goals first | (intro _; exfalso; omega) | intro _) | (apply WO.add; exact rfl; exact rfl; omega) | (apply WO.cll; exact rfl; exact rfl; first | exact hq' _) | (apply WO.iav; exact rfl; exact rfl; omega) | (apply WO.ias; exact rfl; exact rfl; omega) | (apply WO.lda; exact rfl; exact fun _ => rfl; (first | omega | (simp only [List.length_set]; omega) | (simp; omega)); decide; exact rfl; case ia => infer_instance) | (apply WO.lsa; exact rfl; (first | exact rfl | assumption | exact at_new | (apply at_old; assumption) | (apply at_put; first | assumption | (simp only [put_length]; assumption))); exact fun _ => rfl; (first | omega | (simp only [List.length_set]; omega) | (simp; omega)); decide; exact rfl; case ia => infer_instance) | (apply WO.sneq; exact rfl; exact rfl; all_goals first | (intro h; exact absurd h (by decide)) | (intro h; exact absurd rfl h) | (intro h; contradiction) | intro _) | (apply WO.clb; exact rfl; exact rfl; exact rfl; all_goals first | (intro h; exact absurd h (by decide)) | intro _) | (apply WO.cll; exact rfl; exact rfl; exact rfl) | (apply WO.hlv; exact rfl; exact rfl; exact rfl) | (apply WO.hpv; exact rfl; exact rfl; exact rfl) | (apply WO.hnv; exact rfl; exact rfl; exact rfl) | (apply WO.pl; exact rfl; exact rfl) | (apply WO.pp; exact rfl; exact rfl)
  exact LQn (hQ _ _ _ _ _ _)
end Go.Ab.T5


/-
  Own work: the law TopStrideStarts: one of its cases.
-/
namespace Go.Ab.T5
variable {M : Mach}
set_option maxHeartbeats 8000000 in
theorem w3e (C : C3 M) (l : List Int) (st by0 : Int) (hs : 0 ≤ st ∧ st < 256) (hb : 0 ≤ by0 ∧ by0 < 256) (h30 : ¬ 30 < l.length) (hE : samplesE l (1 + st) 20 = 0) (hF : ¬ firstAt l 20 < 0) (hA1 : firstAt l 20 * (1 + st) < 1000) (hB1 : firstAt l 20 * (1 + st) + by0 % 20 * (1 + st) < 1000) : Ret3 M l st by0 := by
  unfold Ret3
  have hEnd : ∀ s : StW, s.s.dfs = [] → s.s.pe[3]? = some (.bool true) → ((fun (e : Ex) (s : StW) => (e = .normal ∨ e = .ret) ∧ s.s.dfs = [] ∧ ∃ vs, resultsA s.s [.var (.p 3)] = some vs ∧ tupA vs = .bool true ∧ (if (AV.bool true).top ≤ 0 then [] else s.s.hp) = []) Ex.ret s) := fun s h1 h2 =>
    ⟨.inr rfl, h1, [.bool true], by simp only [resultsA, St.opd, h2], rfl, rfl⟩
  have q5 := C.c5
  have q4 := fun h => C.c4 l none (1 + st) 20 h (by omega)
  rw [hE] at q4
  have hw : 0 ≤ by0 % 20 ∧ by0 % 20 < 20 := ⟨Int.emod_nonneg _ (by decide), Int.emod_lt_of_pos _ (by decide)⟩
  have hE2 := samples_later (by0 % 20).toNat hE (by omega) (by omega)
  have hF2 := first_later l (by0 % 20).toNat
  have hFl := first_lt l 20
  have q6 : ∀ h, M.ext 6 [.vs (ints l) l.length none, .int .i64 (1 + st), .int .i64 20] h = some ⟨.tup [.int .i64 (if firstAt l 20 < 0 then 0 else firstAt l 20 * (1 + st)), .int .i64 (if firstAt l 20 < 0 then 7 else 0)], h, []⟩ := fun h => by
    rw [C.c6 _ l _ _ _ (intsAt_vs ..) (by omega), if_neg (fun h : samplesE l (1 + st) 20 ≠ 0 => h hE), if_neg (fun h : samplesE l (1 + st) 20 ≠ 0 => h hE)]
  have q6b : ∀ v h, intsAt h v = some (List.replicate (by0 % 20).toNat 0 ++ l) → M.ext 6 [v, .int .i64 (1 + st), .int .i64 20] h = some ⟨.tup [.int .i64 (if firstAt l 20 < 0 then 0 else firstAt l 20 * (1 + st) + by0 % 20 * (1 + st)), .int .i64 (if firstAt l 20 < 0 then 7 else 0)], h, []⟩ := fun v h hv => by
    rw [C.c6 _ _ _ _ _ hv (by rw [List.length_append, List.length_replicate]; omega), if_neg (fun h : samplesE (List.replicate (by0 % 20).toNat 0 ++ l) (1 + st) 20 ≠ 0 => h hE2), if_neg (fun h : samplesE (List.replicate (by0 % 20).toNat 0 ++ l) (1 + st) 20 ≠ 0 => h hE2), hF2]
    by_cases hF : firstAt l 20 < 0
    · simp only [if_pos hF]; rfl
    · rw [if_neg hF, if_neg (by omega), if_neg (by omega), if_neg hF, if_neg hF, Int.add_mul, Int.toNat_of_nonneg hw.1]
  have z0 : sliceCells ([] ++ [some (Blk.cells (arr (fun x => [AV.int .i64 x]) (List.replicate (by0 % 20).toNat 0)) 3)]) (.vs (ints l) l.length none) = some (ints l, l.length) := rfl
  have zl : (ints l).length = l.length * 1 := arr_length (f := fun x : Int => [AV.int .i64 x]) (esz := 1) (fun _ => rfl) l
  have zo : (ints l).all oneA = true := one_arr (fun _ => rfl) l
  have zz : (arr (fun x => [AV.int .i64 x]) (List.replicate (by0 % 20).toNat 0)).length = (by0 % 20).toNat * 1 := by
    rw [arr_length (f := fun x : Int => [AV.int .i64 x]) (esz := 1) (fun _ => rfl), List.length_replicate]
  have za : arr (fun x => [AV.int .i64 x]) (List.replicate (by0 % 20).toNat 0) ++ ints l = ints (List.replicate (by0 % 20).toNat 0 ++ l) := by simp [ints, arr]
  refine run_of_W (by rw [C.ft]; exact ft3) (by simp) ?_
  have hF0 : 0 ≤ firstAt l 20 ∧ firstAt l 20 < l.length := by omega
  have h1 : 0 < l.length := by omega
  rw [if_neg hF, if_neg hF] at q6
  simp only [if_neg hF] at q6b
  have qb := q6b (.sl 1 0 ((by0 % 20).toNat + l.length) 1 none) ([] ++ [some (Blk.cells (arr (fun x => [AV.int .i64 x]) (List.replicate (by0 % 20).toNat 0)) 3)] ++ [some (Blk.cells (ints (List.replicate (by0 % 20).toNat 0 ++ l)) 3)]) (ints_at rfl (by simp))
  have hA : 0 ≤ firstAt l 20 * (1 + st) ∧ firstAt l 20 * (1 + st) ≤ 10000 := by
    have k1 : firstAt l 20 * (1 + st) ≤ 30 * (1 + st) := Int.mul_le_mul_of_nonneg_right (by omega) (by omega)
    have k2 : 0 ≤ firstAt l 20 * (1 + st) := Int.mul_nonneg (by omega) (by omega)
    omega
  have hW : 0 ≤ by0 % 20 * (1 + st) ∧ by0 % 20 * (1 + st) ≤ 10000 := by
    have k1 : by0 % 20 * (1 + st) ≤ 20 * (1 + st) := Int.mul_le_mul_of_nonneg_right (by omega) (by omega)
    have k2 : 0 ≤ by0 % 20 * (1 + st) := Int.mul_nonneg (by omega) (by omega)
    omega
  clear q6b hF hF0 hF2 hFl
  generalize firstAt l 20 * (1 + st) = A at *
  have hR := react0 (a := A) (b := A + by0 % 20 * (1 + st)) (by omega) (by omega)
  have qA : ∀ h, M.ext 8 [mkT (A + 1), mkT 1001] h = some ⟨.tup [.int .i64 (cmpT (A + 1)), .int .i64 0], h, []⟩ := fun h => C.c8 _ h (by omega) (by omega)
  have qB : ∀ h, M.ext 8 [mkT (A + by0 % 20 * (1 + st) + 1), mkT 1001] h = some ⟨.tup [.int .i64 (cmpT (A + by0 % 20 * (1 + st) + 1)), .int .i64 0], h, []⟩ := fun h => C.c8 _ h (by omega) (by omega)
  have hT : ∀ v, v < 1001 → cmpT v = -1 := fun v h => if_pos h
  have hG : ∀ v, 1001 ≤ v → 0 ≤ cmpT v := fun v h => by unfold cmpT; split <;> omega
  rw [hT (A + 1) (by omega)] at qA
  rw [hT (A + by0 % 20 * (1 + st) + 1) (by omega)] at qB
  have hL := lanes2 (a := A) (b := A + by0 % 20 * (1 + st)) (by omega) (by omega)
  have q7 : ∀ h, intsAt h (.sl 2 0 3 1 (some 3)) = some [A, A + by0 % 20 * (1 + st), -1] → M.ext 7 [.sl 2 0 3 1 (some 3)] h = some ⟨.tup [.sl h.length 0 2 1 none, .int .i64 0], h ++ [some (.cells [.int .i64 1, .int .i64 2] 3)], []⟩ := fun h hv => by
    rw [C.c7s _ _ h hv (by simp) hR (by rw [hL]; simp), hL]; rfl
  have q9 : ∀ x y h, intsAt h x = some [1, 2] → intsAt h y = some [1, 2] → M.ext 9 [x, y] h = some ⟨.bool true, h, []⟩ := fun x y h hx hy => by rw [C.c9 _ _ _ _ h hx hy (by simp)]; rfl
  have q10 : ∀ x h, intsAt h x = some [1, 2] → M.ext 10 [x, .int .i64 2] h = some ⟨.bool true, h, []⟩ := fun x h hx => by rw [C.c10 _ _ 2 h hx (by simp)]; rfl
  unfold b3
  simp only [List.map_cons, List.map_nil, List.getElem?_cons_zero, List.getElem?_cons_succ, List.getElem?_nil, Option.getD_some, Option.getD_none]
  repeat' first | (refine WO.apg rfl rfl rfl zz z0 ⟨zl, by decide, zo⟩ ⟨h1, by simp only [roomLimit]; omega⟩ za ?_) | apply W.seq | apply SQn | apply W.region | apply WO.nil | apply W.block | apply W.ret | apply W.exit | apply W.skip | apply SQr | apply SQe | apply BQn | apply BQr | apply BQe | (apply BQo; exact rfl) | apply LQe | apply LQr | (apply W.condT; exact rfl) | (apply W.condF; exact rfl) | (apply W.cond; exact rfl; all_goals intro _) | (apply WO.gT; exact rfl) | (apply WO.gF; exact rfl) | (apply WO.sT; exact rfl) | (apply WO.sF; exact rfl) | (apply WO.sU; exact rfl) | (apply WO.lss; exact rfl; exact rfl; all_goals first | (intro _; exfalso; omega) | intro _) | (apply WO.gtr; exact rfl; exact rfl; all_goals first | (intro _; exfalso; omega) | intro _) | (apply WO.eql; exact rfl; exact rfl; all_goals first | (intro _; exfalso; omega) | intro _) | (apply WO.neq; exact rfl; exact rfl; all_goals first | (intro _; exfalso; omega) | intro _) | (apply WO.cvi; exact rfl; omega) | (apply WO.pkT; exact rfl; exact rfl) | (apply WO.pkF; exact rfl; exact rfl) | (apply WO.add; exact rfl; exact rfl; omega) | (apply WO.mul; exact rfl; exact rfl; omega) | (apply WO.remp; exact rfl; exact rfl; omega; intro _ _) | (apply WO.remn; exact rfl; exact rfl; omega; intro _ _) | (apply WO.rem; exact rfl; exact rfl; omega) | (apply WO.cll; exact rfl; exact rfl; first | exact q4 _ | exact q5 _ | exact q6 _ | exact qb | exact q7 _ rfl) | (apply WO.mki; exact rfl; exact rfl; omega) | (apply WO.mkb; exact rfl; exact rfl; omega) | (apply WO.seql; exact rfl; exact rfl; all_goals first | (intro h; exact absurd h (by decide)) | (intro h; exact absurd rfl h) | (intro h; contradiction) | intro _) | (apply WO.sneq; exact rfl; exact rfl; all_goals first | (intro h; exact absurd h (by decide)) | (intro h; exact absurd rfl h) | (intro h; contradiction) | intro _) | (apply WO.clb; exact rfl; exact rfl; exact rfl; all_goals first | (intro h; exact absurd h (by decide)) | intro _) | (apply WO.cll; exact rfl; exact rfl; exact rfl) | (apply WO.hlv; exact rfl; exact rfl; exact rfl) | (apply WO.hpv; exact rfl; exact rfl; exact rfl) | (apply WO.hnv; exact rfl; exact rfl; exact rfl) | (apply WO.pl; exact rfl; exact rfl) | (apply WO.pp; exact rfl; exact rfl)
  refine iterP (i := 0) (A := A) (B := A + by0 % 20 * (1 + st)) _ _ _ _ _ _ _ _ _ _ _ _ _ _ _ _ _ (by decide) rfl (show 0 ≤ A ∧ A ≤ 100000000 by omega) qA fun a13 a14 a15 a16 lo => ?_
  refine iterQ (i := 1) (x := 1) (A := A) (B := A + by0 % 20 * (1 + st)) _ _ _ _ _ _ _ _ _ _ _ _ _ _ _ _ _ (by decide) rfl rfl (show 0 ≤ A + by0 % 20 * (1 + st) ∧ A + by0 % 20 * (1 + st) ≤ 100000000 by omega) qB fun a13 a14 a15 a16 lo wr => ?_
  refine out3 _ _ _ _ _ _ _ _ _ _ _ _ _ _ _ _ _ fun lo => ?_
  repeat' first | apply W.seq | apply SQn | apply W.region | apply WO.nil | apply W.block | apply W.ret | apply W.exit | apply W.skip | apply SQr | apply SQe | apply BQn | apply BQr | apply BQe | (apply BQo; exact rfl) | apply LQe | apply LQr | (apply W.condT; exact rfl) | (apply W.condF; exact rfl) | (apply W.cond; exact rfl; all_goals intro _) | (apply WO.gT; exact rfl) | (apply WO.gF; exact rfl) | (apply WO.sT; exact rfl) | (apply WO.sF; exact rfl) | (apply WO.sU; exact rfl) | (apply WO.lss; exact rfl; exact rfl; all_goals first | (intro _; exfalso; omega) | intro _) | (apply WO.gtr; exact rfl; exact rfl; all_goals first | (intro _; exfalso; omega) | intro _) | (apply WO.eql; exact rfl; exact rfl; all_goals first | (intro _; exfalso; omega) | intro _) | (apply WO.neq; exact rfl; exact rfl; all_goals first | (intro _; exfalso; omega) | intro _) | (apply WO.cvi; exact rfl; omega) | (apply WO.pkT; exact rfl; exact rfl) | (apply WO.pkF; exact rfl; exact rfl) | (apply WO.add; exact rfl; exact rfl; omega) | (apply WO.mul; exact rfl; exact rfl; omega) | (apply WO.remp; exact rfl; exact rfl; omega; intro _ _) | (apply WO.remn; exact rfl; exact rfl; omega; intro _ _) | (apply WO.rem; exact rfl; exact rfl; omega) | (apply WO.cll; exact rfl; exact rfl; first | exact q5 _ | exact q9 _ _ _ rfl rfl | exact q10 _ _ rfl) | (apply WO.mki; exact rfl; exact rfl; omega) | (apply WO.mkb; exact rfl; exact rfl; omega) | (apply WO.seql; exact rfl; exact rfl; all_goals first | (intro h; exact absurd h (by decide)) | (intro h; exact absurd rfl h) | (intro h; contradiction) | intro _) | (apply WO.sneq; exact rfl; exact rfl; all_goals first | (intro h; exact absurd h (by decide)) | (intro h; exact absurd rfl h) | (intro h; contradiction) | intro _) | (apply WO.clb; exact rfl; exact rfl; exact rfl; all_goals first | (intro h; exact absurd h (by decide)) | intro _) | (apply WO.cll; exact rfl; exact rfl; exact rfl) | (apply WO.hlv; exact rfl; exact rfl; exact rfl) | (apply WO.hpv; exact rfl; exact rfl; exact rfl) | (apply WO.hnv; exact rfl; exact rfl; exact rfl) | (apply WO.pl; exact rfl; exact rfl) | (apply WO.pp; exact rfl; exact rfl)
  all_goals exact hEnd _ rfl rfl
end Go.Ab.T5


/-
  Own work: the law TopStrideStarts: one of its cases.
-/
namespace Go.Ab.T5
variable {M : Mach}
set_option maxHeartbeats 8000000 in
theorem w3f (C : C3 M) (l : List Int) (st by0 : Int) (hs : 0 ≤ st ∧ st < 256) (hb : 0 ≤ by0 ∧ by0 < 256) (h30 : ¬ 30 < l.length) (hE : samplesE l (1 + st) 20 = 0) (hF : ¬ firstAt l 20 < 0) (hA1 : firstAt l 20 * (1 + st) < 1000) (hB1 : ¬ firstAt l 20 * (1 + st) + by0 % 20 * (1 + st) < 1000) : Ret3 M l st by0 := by
  unfold Ret3
  have hEnd : ∀ s : StW, s.s.dfs = [] → s.s.pe[3]? = some (.bool true) → ((fun (e : Ex) (s : StW) => (e = .normal ∨ e = .ret) ∧ s.s.dfs = [] ∧ ∃ vs, resultsA s.s [.var (.p 3)] = some vs ∧ tupA vs = .bool true ∧ (if (AV.bool true).top ≤ 0 then [] else s.s.hp) = []) Ex.ret s) := fun s h1 h2 =>
    ⟨.inr rfl, h1, [.bool true], by simp only [resultsA, St.opd, h2], rfl, rfl⟩
  have q5 := C.c5
  have q4 := fun h => C.c4 l none (1 + st) 20 h (by omega)
  rw [hE] at q4
  have hw : 0 ≤ by0 % 20 ∧ by0 % 20 < 20 := ⟨Int.emod_nonneg _ (by decide), Int.emod_lt_of_pos _ (by decide)⟩
  have hE2 := samples_later (by0 % 20).toNat hE (by omega) (by omega)
  have hF2 := first_later l (by0 % 20).toNat
  have hFl := first_lt l 20
  have q6 : ∀ h, M.ext 6 [.vs (ints l) l.length none, .int .i64 (1 + st), .int .i64 20] h = some ⟨.tup [.int .i64 (if firstAt l 20 < 0 then 0 else firstAt l 20 * (1 + st)), .int .i64 (if firstAt l 20 < 0 then 7 else 0)], h, []⟩ := fun h => by
    rw [C.c6 _ l _ _ _ (intsAt_vs ..) (by omega), if_neg (fun h : samplesE l (1 + st) 20 ≠ 0 => h hE), if_neg (fun h : samplesE l (1 + st) 20 ≠ 0 => h hE)]
  have q6b : ∀ v h, intsAt h v = some (List.replicate (by0 % 20).toNat 0 ++ l) → M.ext 6 [v, .int .i64 (1 + st), .int .i64 20] h = some ⟨.tup [.int .i64 (if firstAt l 20 < 0 then 0 else firstAt l 20 * (1 + st) + by0 % 20 * (1 + st)), .int .i64 (if firstAt l 20 < 0 then 7 else 0)], h, []⟩ := fun v h hv => by
    rw [C.c6 _ _ _ _ _ hv (by rw [List.length_append, List.length_replicate]; omega), if_neg (fun h : samplesE (List.replicate (by0 % 20).toNat 0 ++ l) (1 + st) 20 ≠ 0 => h hE2), if_neg (fun h : samplesE (List.replicate (by0 % 20).toNat 0 ++ l) (1 + st) 20 ≠ 0 => h hE2), hF2]
    by_cases hF : firstAt l 20 < 0
    · simp only [if_pos hF]; rfl
    · rw [if_neg hF, if_neg (by omega), if_neg (by omega), if_neg hF, if_neg hF, Int.add_mul, Int.toNat_of_nonneg hw.1]
  have z0 : sliceCells ([] ++ [some (Blk.cells (arr (fun x => [AV.int .i64 x]) (List.replicate (by0 % 20).toNat 0)) 3)]) (.vs (ints l) l.length none) = some (ints l, l.length) := rfl
  have zl : (ints l).length = l.length * 1 := arr_length (f := fun x : Int => [AV.int .i64 x]) (esz := 1) (fun _ => rfl) l
  have zo : (ints l).all oneA = true := one_arr (fun _ => rfl) l
  have zz : (arr (fun x => [AV.int .i64 x]) (List.replicate (by0 % 20).toNat 0)).length = (by0 % 20).toNat * 1 := by
    rw [arr_length (f := fun x : Int => [AV.int .i64 x]) (esz := 1) (fun _ => rfl), List.length_replicate]
  have za : arr (fun x => [AV.int .i64 x]) (List.replicate (by0 % 20).toNat 0) ++ ints l = ints (List.replicate (by0 % 20).toNat 0 ++ l) := by simp [ints, arr]
  refine run_of_W (by rw [C.ft]; exact ft3) (by simp) ?_
  have hF0 : 0 ≤ firstAt l 20 ∧ firstAt l 20 < l.length := by omega
  have h1 : 0 < l.length := by omega
  rw [if_neg hF, if_neg hF] at q6
  simp only [if_neg hF] at q6b
  have qb := q6b (.sl 1 0 ((by0 % 20).toNat + l.length) 1 none) ([] ++ [some (Blk.cells (arr (fun x => [AV.int .i64 x]) (List.replicate (by0 % 20).toNat 0)) 3)] ++ [some (Blk.cells (ints (List.replicate (by0 % 20).toNat 0 ++ l)) 3)]) (ints_at rfl (by simp))
  have hA : 0 ≤ firstAt l 20 * (1 + st) ∧ firstAt l 20 * (1 + st) ≤ 10000 := by
    have k1 : firstAt l 20 * (1 + st) ≤ 30 * (1 + st) := Int.mul_le_mul_of_nonneg_right (by omega) (by omega)
    have k2 : 0 ≤ firstAt l 20 * (1 + st) := Int.mul_nonneg (by omega) (by omega)
    omega
  have hW : 0 ≤ by0 % 20 * (1 + st) ∧ by0 % 20 * (1 + st) ≤ 10000 := by
    have k1 : by0 % 20 * (1 + st) ≤ 20 * (1 + st) := Int.mul_le_mul_of_nonneg_right (by omega) (by omega)
    have k2 : 0 ≤ by0 % 20 * (1 + st) := Int.mul_nonneg (by omega) (by omega)
    omega
  clear q6b hF hF0 hF2 hFl
  generalize firstAt l 20 * (1 + st) = A at *
  have hR := react0 (a := A) (b := A + by0 % 20 * (1 + st)) (by omega) (by omega)
  have qA : ∀ h, M.ext 8 [mkT (A + 1), mkT 1001] h = some ⟨.tup [.int .i64 (cmpT (A + 1)), .int .i64 0], h, []⟩ := fun h => C.c8 _ h (by omega) (by omega)
  have qB : ∀ h, M.ext 8 [mkT (A + by0 % 20 * (1 + st) + 1), mkT 1001] h = some ⟨.tup [.int .i64 (cmpT (A + by0 % 20 * (1 + st) + 1)), .int .i64 0], h, []⟩ := fun h => C.c8 _ h (by omega) (by omega)
  have hT : ∀ v, v < 1001 → cmpT v = -1 := fun v h => if_pos h
  have hG : ∀ v, 1001 ≤ v → 0 ≤ cmpT v := fun v h => by unfold cmpT; split <;> omega
  rw [hT (A + 1) (by omega)] at qA
  have hg := hG (A + by0 % 20 * (1 + st) + 1) (by omega)
  generalize cmpT (A + by0 % 20 * (1 + st) + 1) = g at *
  have hL := lanes1 (a := A) (b := A + by0 % 20 * (1 + st)) (by omega) (by omega)
  have q7 : ∀ h, intsAt h (.sl 2 0 3 1 (some 3)) = some [A, A + by0 % 20 * (1 + st), -1] → M.ext 7 [.sl 2 0 3 1 (some 3)] h = some ⟨.tup [.sl h.length 0 1 1 none, .int .i64 0], h ++ [some (.cells [.int .i64 1] 3)], []⟩ := fun h hv => by
    rw [C.c7s _ _ h hv (by simp) hR (by rw [hL]; simp), hL]; rfl
  have q9 : ∀ x y h, intsAt h x = some [1] → intsAt h y = some [1] → M.ext 9 [x, y] h = some ⟨.bool true, h, []⟩ := fun x y h hx hy => by rw [C.c9 _ _ _ _ h hx hy (by simp)]; rfl
  have q10 : ∀ x h, intsAt h x = some [1] → M.ext 10 [x, .int .i64 2] h = some ⟨.bool false, h, []⟩ := fun x h hx => by rw [C.c10 _ _ 2 h hx (by simp)]; rfl
  unfold b3
  simp only [List.map_cons, List.map_nil, List.getElem?_cons_zero, List.getElem?_cons_succ, List.getElem?_nil, Option.getD_some, Option.getD_none]
  repeat' first | (refine WO.apg rfl rfl rfl zz z0 ⟨zl, by decide, zo⟩ ⟨h1, by simp only [roomLimit]; omega⟩ za ?_) | apply W.seq | apply SQn | apply W.region | apply WO.nil | apply W.block | apply W.ret | apply W.exit | apply W.skip | apply SQr | apply SQe | apply BQn | apply BQr | apply BQe | (apply BQo; exact rfl) | apply LQe | apply LQr | (apply W.condT; exact rfl) | (apply W.condF; exact rfl) | (apply W.cond; exact rfl; all_goals intro _) | (apply WO.gT; exact rfl) | (apply WO.gF; exact rfl) | (apply WO.sT; exact rfl) | (apply WO.sF; exact rfl) | (apply WO.sU; exact rfl) | (apply WO.lss; exact rfl; exact rfl; all_goals first | (intro _; exfalso; omega) | intro _) | (apply WO.gtr; exact rfl; exact rfl; all_goals first | (intro _; exfalso; omega) | intro _) | (apply WO.eql; exact rfl; exact rfl; all_goals first | (intro _; exfalso; omega) | intro _) | (apply WO.neq; exact rfl; exact rfl; all_goals first | (intro _; exfalso; omega) | intro _) | (apply WO.cvi; exact rfl; omega) | (apply WO.pkT; exact rfl; exact rfl) | (apply WO.pkF; exact rfl; exact rfl) | (apply WO.add; exact rfl; exact rfl; omega) | (apply WO.mul; exact rfl; exact rfl; omega) | (apply WO.remp; exact rfl; exact rfl; omega; intro _ _) | (apply WO.remn; exact rfl; exact rfl; omega; intro _ _) | (apply WO.rem; exact rfl; exact rfl; omega) | (apply WO.cll; exact rfl; exact rfl; first | exact q4 _ | exact q5 _ | exact q6 _ | exact qb | exact q7 _ rfl) | (apply WO.mki; exact rfl; exact rfl; omega) | (apply WO.mkb; exact rfl; exact rfl; omega) | (apply WO.seql; exact rfl; exact rfl; all_goals first | (intro h; exact absurd h (by decide)) | (intro h; exact absurd rfl h) | (intro h; contradiction) | intro _) | (apply WO.sneq; exact rfl; exact rfl; all_goals first | (intro h; exact absurd h (by decide)) | (intro h; exact absurd rfl h) | (intro h; contradiction) | intro _) | (apply WO.clb; exact rfl; exact rfl; exact rfl; all_goals first | (intro h; exact absurd h (by decide)) | intro _) | (apply WO.cll; exact rfl; exact rfl; exact rfl) | (apply WO.hlv; exact rfl; exact rfl; exact rfl) | (apply WO.hpv; exact rfl; exact rfl; exact rfl) | (apply WO.hnv; exact rfl; exact rfl; exact rfl) | (apply WO.pl; exact rfl; exact rfl) | (apply WO.pp; exact rfl; exact rfl)
  refine iterP (i := 0) (A := A) (B := A + by0 % 20 * (1 + st)) _ _ _ _ _ _ _ _ _ _ _ _ _ _ _ _ _ (by decide) rfl (show 0 ≤ A ∧ A ≤ 100000000 by omega) qA fun a13 a14 a15 a16 lo => ?_
  refine iterN (i := 1) (A := A) (B := A + by0 % 20 * (1 + st)) _ _ _ _ _ _ _ _ _ _ _ _ _ _ _ _ _ (by decide) rfl (show 0 ≤ A + by0 % 20 * (1 + st) ∧ A + by0 % 20 * (1 + st) ≤ 100000000 by omega) qB hg fun a13 a14 a15 a16 lo => ?_
  refine out3 _ _ _ _ _ _ _ _ _ _ _ _ _ _ _ _ _ fun lo => ?_
  repeat' first | apply W.seq | apply SQn | apply W.region | apply WO.nil | apply W.block | apply W.ret | apply W.exit | apply W.skip | apply SQr | apply SQe | apply BQn | apply BQr | apply BQe | (apply BQo; exact rfl) | apply LQe | apply LQr | (apply W.condT; exact rfl) | (apply W.condF; exact rfl) | (apply W.cond; exact rfl; all_goals intro _) | (apply WO.gT; exact rfl) | (apply WO.gF; exact rfl) | (apply WO.sT; exact rfl) | (apply WO.sF; exact rfl) | (apply WO.sU; exact rfl) | (apply WO.lss; exact rfl; exact rfl; all_goals first | (intro _; exfalso; omega) | intro _) | (apply WO.gtr; exact rfl; exact rfl; all_goals first | (intro _; exfalso; omega) | intro _) | (apply WO.eql; exact rfl; exact rfl; all_goals first | (intro _; exfalso; omega) | intro _) | (apply WO.neq; exact rfl; exact rfl; all_goals first | (intro _; exfalso; omega) | intro _) | (apply WO.cvi; exact rfl; omega) | (apply WO.pkT; exact rfl; exact rfl) | (apply WO.pkF; exact rfl; exact rfl) | (apply WO.add; exact rfl; exact rfl; omega) | (apply WO.mul; exact rfl; exact rfl; omega) | (apply WO.remp; exact rfl; exact rfl; omega; intro _ _) | (apply WO.remn; exact rfl; exact rfl; omega; intro _ _) | (apply WO.rem; exact rfl; exact rfl; omega) | (apply WO.cll; exact rfl; exact rfl; first | exact q5 _ | exact q9 _ _ _ rfl rfl | exact q10 _ _ rfl) | (apply WO.mki; exact rfl; exact rfl; omega) | (apply WO.mkb; exact rfl; exact rfl; omega) | (apply WO.seql; exact rfl; exact rfl; all_goals first | (intro h; exact absurd h (by decide)) | (intro h; exact absurd rfl h) | (intro h; contradiction) | intro _) | (apply WO.sneq; exact rfl; exact rfl; all_goals first | (intro h; exact absurd h (by decide)) | (intro h; exact absurd rfl h) | (intro h; contradiction) | intro _) | (apply WO.clb; exact rfl; exact rfl; exact rfl; all_goals first | (intro h; exact absurd h (by decide)) | intro _) | (apply WO.cll; exact rfl; exact rfl; exact rfl) | (apply WO.hlv; exact rfl; exact rfl; exact rfl) | (apply WO.hpv; exact rfl; exact rfl; exact rfl) | (apply WO.hnv; exact rfl; exact rfl; exact rfl) | (apply WO.pl; exact rfl; exact rfl) | (apply WO.pp; exact rfl; exact rfl)
  all_goals exact hEnd _ rfl rfl
end Go.Ab.T5

