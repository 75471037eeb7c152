/-
  Own work: the resolved code of some functions of chapter 1.
-/
import Derived.Test.YtcjphdmkgmkabaaGreatDoorCh1Base
import Derived.Test.YtcjphdmkgmkabaaGreatDoorLib2
import Derived.Test.YtcjphdmkgmkabaaGreatDoorCh1Row
import Derived.Test.YtcjphdmkgmkabaaGreatDoorRows
import Derived.Test.YtcjphdmkgmkabaaGreatDoorCards
import Derived.JoinedCond
import Derived.SevenTiedAt
import Derived.KernelRfl
namespace Go.Ab.Ch1
set_option maxRecDepth 1000000
def b19_0 : ICode :=
 .seq (.region [⟨(.l 21), .bin .lss (.p 9) (.p 8), none⟩])
  (.seq (.cond (.l 21)
    (.skip)
    (.exit 0))
   (.seq (.block 1
     (.seq (.region [⟨(.l 22), .mv (.p 9), none⟩,
        ⟨(.p 5), .mv (.l 22), none⟩])
      (.region [⟨(.l 23), .mv (.p 4), none⟩,
        ⟨(.l 24), .mv (.p 5), none⟩,
        ⟨(.l 25), .mv (.p 5), none⟩,
        ⟨(.l 26), .iaddr none 1 (.l 23) (.l 24), none⟩,
        ⟨.no, .store 1 (.l 26) (.l 25), none⟩])))
    (.region [⟨(.l 27), .bin .add (.p 9) (.c (.int .i64 (1))), none⟩,
      ⟨(.p 9), .mv (.l 27), none⟩])))
def b19_1 : ICode :=
 .seq (.seq (.region [⟨(.l 30), .mv (.p 6), none⟩,
     ⟨(.l 31), .bin .gtr (.l 30) (.c (.int .i64 (0))), none⟩])
   (.cond (.l 31)
    (.skip)
    (.exit 2)))
  (.seq (.block 3
    (.seq (.region [⟨(.l 34), .mv (.p 0), none⟩,
       ⟨(.l 35), .bin .mul (.c (.int .i64 (69621))) (.l 34), none⟩,
       ⟨(.l 36), .bin .rem (.l 35) (.c (.int .i64 (2147483647))), none⟩,
       ⟨(.p 0), .mv (.l 36), none⟩])
     (.seq (.region [⟨(.l 37), .mv (.p 0), none⟩,
        ⟨(.l 38), .mv (.p 6), none⟩,
        ⟨(.l 39), .bin .add (.l 38) (.c (.int .i64 (1))), none⟩,
        ⟨(.l 40), .bin .rem (.l 37) (.l 39), none⟩,
        ⟨(.p 7), .mv (.l 40), none⟩])
      (.draw [(⟨(.l 41), .mv (.p 4), none⟩, []),
        (⟨(.l 42), .mv (.p 6), none⟩, [0]),
        (⟨(.l 43), .mv (.p 4), none⟩, [0, 1]),
        (⟨(.l 44), .mv (.p 7), none⟩, [0, 1, 2]),
        (⟨(.l 45), .mv (.p 4), none⟩, [0, 1, 2, 3]),
        (⟨(.l 46), .mv (.p 7), none⟩, [0, 1, 2, 3, 4]),
        (⟨(.l 47), .iaddr none 1 (.l 45) (.l 46), none⟩, [0, 1, 2, 3]),
        (⟨(.l 48), .load 1 false (.l 47), none⟩, [0, 1, 2, 3]),
        (⟨(.l 49), .mv (.p 4), none⟩, [0, 1, 2, 3, 4, 5, 6, 7]),
        (⟨(.l 50), .mv (.p 6), none⟩, [0, 1, 2, 3, 4, 5, 6, 7, 8]),
        (⟨(.l 51), .iaddr none 1 (.l 49) (.l 50), none⟩, [0, 1, 2, 3, 4, 5, 6, 7]),
        (⟨(.l 52), .load 1 false (.l 51), none⟩, [0, 1, 2, 3, 4, 5, 6, 7]),
        (⟨(.l 53), .iaddr none 1 (.l 41) (.l 42), none⟩, [2, 3]),
        (⟨.no, .store 1 (.l 53) (.l 48), none⟩, [2, 3]),
        (⟨(.l 54), .iaddr none 1 (.l 43) (.l 44), none⟩, []),
        (⟨.no, .store 1 (.l 54) (.l 52), none⟩, [])]))))
   (.region [⟨(.l 32), .mv (.p 6), none⟩,
     ⟨(.l 33), .bin .sub (.l 32) (.c (.int .i64 (1))), none⟩,
     ⟨(.p 6), .mv (.l 33), none⟩]))
/-- stadion/mark.Draw -/
def b19 : ICode :=
 .seq (.region [⟨(.p 2), .mv (.c (.nilsl)), none⟩,
    ⟨(.p 3), .mv (.c (.int .i64 (0))), none⟩])
  (.seq (.seq (.region [⟨(.l 10), .mv (.p 0), none⟩,
      ⟨(.l 11), .call (.c (.fn (.func 95) [] [])) [(.l 10), (.c (.int .i64 (1))), (.c (.int .i64 (2147483646)))], none⟩,
      ⟨(.l 12), .mv (.l 11), none⟩,
      ⟨(.l 13), .mv (.p 1), some ((.l 12), false)⟩,
      ⟨(.l 14), .call (.c (.fn (.func 95) [] [])) [(.l 13), (.c (.int .i64 (0))), (.c (.int .i64 (256)))], some ((.l 12), false)⟩,
      ⟨(.l 15), .pick (.l 12) (.c (.bool true)) (.l 14), none⟩])
    (.cond (.l 15)
     (.seq (.region [⟨(.p 2), .mv (.c (.nilsl)), none⟩,
        ⟨(.p 3), .mv (.c (.int .i64 (3))), none⟩])
      (.ret))
     (.skip)))
   (.seq (.region [⟨(.l 16), .mv (.p 1), none⟩,
      ⟨(.l 17), .mkslice 3 1 8 [.int .i64 (0)] (.l 16) (.l 16), none⟩,
      ⟨(.p 4), .mv (.l 17), none⟩])
    (.seq (.seq (.region [⟨(.l 18), .mv (.p 4), none⟩,
        ⟨(.p 8), .len .sl (.l 18), none⟩,
        ⟨(.p 9), .mv (.c (.int .i64 (0))), none⟩])
      (.block 0
       (.loop b19_0)))
     (.seq (.seq (.region [⟨(.l 28), .mv (.p 1), none⟩,
         ⟨(.l 29), .bin .sub (.l 28) (.c (.int .i64 (1))), none⟩,
         ⟨(.p 6), .mv (.l 29), none⟩])
       (.block 2
        (.loop b19_1)))
      (.seq (.region [⟨(.l 55), .mv (.p 4), none⟩,
         ⟨(.p 2), .mv (.l 55), none⟩,
         ⟨(.p 3), .mv (.c (.int .i64 (0))), none⟩])
       (.ret))))))
theorem ft19 : FT 19 = some ⟨56, [0, 1, 4, 5, 6, 7, 8, 9, 19, 20], [.var (.p 2), .var (.p 3)], b19⟩ := by kernel_rfl

/-- stadion/mark.outside -/
def b95 : ICode :=
 .seq (.region [⟨(.p 3), .mv (.c (.bool false)), none⟩])
  (.seq (.region [⟨(.l 7), .mv (.p 0), none⟩,
     ⟨(.l 8), .mv (.p 1), none⟩,
     ⟨(.l 9), .bin .lss (.l 7) (.l 8), none⟩,
     ⟨(.l 10), .mv (.l 9), none⟩,
     ⟨(.l 11), .mv (.p 0), some ((.l 10), false)⟩,
     ⟨(.l 12), .mv (.p 2), some ((.l 10), false)⟩,
     ⟨(.l 13), .bin .gtr (.l 11) (.l 12), some ((.l 10), false)⟩,
     ⟨(.l 14), .pick (.l 10) (.c (.bool true)) (.l 13), none⟩,
     ⟨(.p 3), .mv (.l 14), none⟩])
   (.ret))
theorem ft95 : FT 95 = some ⟨15, [0, 1, 2, 6], [.var (.p 3)], b95⟩ := by kernel_rfl

def b9_0 : ICode :=
 .seq (.region [⟨(.l 48), .bin .lss (.p 15) (.p 14), none⟩])
  (.seq (.cond (.l 48)
    (.skip)
    (.exit 0))
   (.seq (.block 1
     (.seq (.region [⟨(.l 49), .iaddr none 1 (.p 13) (.p 15), none⟩,
        ⟨(.l 50), .load 1 false (.l 49), none⟩,
        ⟨(.p 6), .mv (.l 50), none⟩])
      (.seq (.seq (.region [⟨(.l 51), .mv (.p 6), none⟩,
          ⟨(.l 52), .bin .lss (.l 51) (.c (.int .i64 (0))), none⟩,
          ⟨(.l 53), .mv (.l 52), none⟩,
          ⟨(.l 54), .mv (.p 6), some ((.l 53), false)⟩,
          ⟨(.l 55), .mv (.p 1), some ((.l 53), false)⟩,
          ⟨(.l 56), .bin .geq (.l 54) (.l 55), some ((.l 53), false)⟩,
          ⟨(.l 57), .pick (.l 53) (.c (.bool true)) (.l 56), none⟩,
          ⟨(.l 58), .mv (.l 57), none⟩,
          ⟨(.l 59), .mv (.p 5), some ((.l 58), false)⟩,
          ⟨(.l 60), .mv (.p 6), some ((.l 58), false)⟩,
          ⟨(.l 61), .iaddr none 1 (.l 59) (.l 60), some ((.l 58), false)⟩,
          ⟨(.l 62), .load 1 false (.l 61), some ((.l 58), false)⟩,
          ⟨(.l 63), .pick (.l 58) (.c (.bool true)) (.l 62), none⟩])
        (.cond (.l 63)
         (.seq (.region [⟨(.p 2), .mv (.c (.bool false)), none⟩])
          (.ret))
         (.skip)))
       (.region [⟨(.l 64), .mv (.p 5), none⟩,
         ⟨(.l 65), .mv (.p 6), none⟩,
         ⟨(.l 66), .iaddr none 1 (.l 64) (.l 65), none⟩,
         ⟨.no, .store 1 (.l 66) (.c (.bool true)), none⟩]))))
    (.region [⟨(.l 67), .bin .add (.p 15) (.c (.int .i64 (1))), none⟩,
      ⟨(.p 15), .mv (.l 67), none⟩])))
def b9_1 : ICode :=
 .seq (.region [⟨(.l 101), .bin .lss (.p 18) (.p 17), none⟩])
  (.seq (.cond (.l 101)
    (.skip)
    (.exit 2))
   (.seq (.block 3
     (.seq (.region [⟨(.l 102), .mv (.p 18), none⟩,
        ⟨(.l 103), .iaddr none 1 (.p 16) (.p 18), none⟩,
        ⟨(.l 104), .load 1 false (.l 103), none⟩,
        ⟨(.p 10), .mv (.l 102), none⟩,
        ⟨(.p 11), .mv (.l 104), none⟩])
      (.seq (.region [⟨(.l 105), .mv (.p 11), none⟩,
         ⟨(.p 12), .mv (.l 105), none⟩])
       (.seq (.seq (.region [⟨(.l 106), .mv (.p 11), none⟩,
           ⟨(.l 107), .mv (.p 7), none⟩,
           ⟨(.l 108), .mv (.p 1), none⟩,
           ⟨(.l 109), .bin .rem (.l 107) (.l 108), none⟩,
           ⟨(.l 110), .bin .eql (.l 106) (.l 109), none⟩])
         (.cond (.l 110)
          (.region [⟨(.l 111), .mv (.p 1), none⟩,
            ⟨(.l 112), .bin .sub (.l 111) (.c (.int .i64 (1))), none⟩,
            ⟨(.p 12), .mv (.l 112), none⟩])
          (.skip)))
        (.seq (.region [⟨(.l 113), .mv (.p 11), none⟩,
           ⟨(.l 114), .bin .lss (.l 113) (.c (.int .i64 (0))), none⟩,
           ⟨(.l 115), .mv (.l 114), none⟩,
           ⟨(.l 116), .mv (.p 11), some ((.l 115), false)⟩,
           ⟨(.l 117), .mv (.p 1), some ((.l 115), false)⟩,
           ⟨(.l 118), .bin .sub (.l 117) (.c (.int .i64 (1))), some ((.l 115), false)⟩,
           ⟨(.l 119), .bin .geq (.l 116) (.l 118), some ((.l 115), false)⟩,
           ⟨(.l 120), .pick (.l 115) (.c (.bool true)) (.l 119), none⟩,
           ⟨(.l 121), .mv (.l 120), none⟩,
           ⟨(.l 122), .mv (.p 3), some ((.l 121), false)⟩,
           ⟨(.l 123), .mv (.p 10), some ((.l 121), false)⟩,
           ⟨(.l 124), .iaddr none 1 (.l 122) (.l 123), some ((.l 121), false)⟩,
           ⟨(.l 125), .load 1 false (.l 124), some ((.l 121), false)⟩,
           ⟨(.l 126), .mv (.p 12), some ((.l 121), false)⟩,
           ⟨(.l 127), .bin .neq (.l 125) (.l 126), some ((.l 121), false)⟩,
           ⟨(.l 128), .pick (.l 121) (.c (.bool true)) (.l 127), none⟩])
         (.cond (.l 128)
          (.seq (.region [⟨(.p 2), .mv (.c (.bool false)), none⟩])
           (.ret))
          (.skip)))))))
    (.region [⟨(.l 129), .bin .add (.p 18) (.c (.int .i64 (1))), none⟩,
      ⟨(.p 18), .mv (.l 129), none⟩])))
/-- stadion/stadionlaw01.MarkShuffles -/
def b9 : ICode :=
 .seq (.region [⟨(.p 2), .mv (.c (.bool false)), none⟩])
  (.seq (.seq (.region [⟨(.l 16), .call (.c (.fn (.func 18) [] [])) [], none⟩,
      ⟨(.l 17), .un .not (.l 16), none⟩,
      ⟨(.l 18), .mv (.l 17), none⟩,
      ⟨(.l 19), .mv (.p 0), some ((.l 18), false)⟩,
      ⟨(.l 20), .mv (.p 1), some ((.l 18), false)⟩,
      ⟨(.l 21), .call (.c (.fn (.func 20) [] [])) [(.l 19), (.l 20)], some ((.l 18), false)⟩,
      ⟨(.l 22), .bin .neq (.l 21) (.c (.int .i64 (0))), some ((.l 18), false)⟩,
      ⟨(.l 23), .pick (.l 18) (.c (.bool true)) (.l 22), none⟩,
      ⟨(.l 24), .mv (.l 23), none⟩,
      ⟨(.l 25), .mv (.p 1), some ((.l 24), false)⟩,
      ⟨(.l 26), .bin .gtr (.l 25) (.c (.int .i64 (40))), some ((.l 24), false)⟩,
      ⟨(.l 27), .pick (.l 24) (.c (.bool true)) (.l 26), none⟩])
    (.cond (.l 27)
     (.seq (.region [⟨(.l 28), .call (.c (.fn (.func 18) [] [])) [], none⟩,
        ⟨(.p 2), .mv (.l 28), none⟩])
      (.ret))
     (.skip)))
   (.seq (.region [⟨(.l 30), .mv (.p 0), none⟩,
      ⟨(.l 31), .mv (.p 1), none⟩,
      ⟨(.l 32), .call (.c (.fn (.func 19) [] [])) [(.l 30), (.l 31)], none⟩,
      ⟨(.l 29), .mv (.l 32), none⟩,
      ⟨(.l 33), .extract 0 (.l 29), none⟩,
      ⟨(.l 34), .extract 1 (.l 29), none⟩,
      ⟨(.p 3), .mv (.l 33), none⟩,
      ⟨(.p 4), .mv (.l 34), none⟩])
    (.seq (.seq (.region [⟨(.l 35), .mv (.p 4), none⟩,
        ⟨(.l 36), .bin .neq (.l 35) (.c (.int .i64 (0))), none⟩,
        ⟨(.l 37), .mv (.l 36), none⟩,
        ⟨(.l 38), .mv (.p 3), some ((.l 37), false)⟩,
        ⟨(.l 39), .len .sl (.l 38), some ((.l 37), false)⟩,
        ⟨(.l 40), .mv (.p 1), some ((.l 37), false)⟩,
        ⟨(.l 41), .bin .neq (.l 39) (.l 40), some ((.l 37), false)⟩,
        ⟨(.l 42), .pick (.l 37) (.c (.bool true)) (.l 41), none⟩])
      (.cond (.l 42)
       (.seq (.region [⟨(.p 2), .mv (.c (.bool false)), none⟩])
        (.ret))
       (.skip)))
     (.seq (.region [⟨(.l 43), .mv (.p 1), none⟩,
        ⟨(.l 44), .mkslice 4 1 1 [.bool false] (.l 43) (.l 43), none⟩,
        ⟨(.p 5), .mv (.l 44), none⟩])
      (.seq (.seq (.region [⟨(.p 13), .mv (.p 3), none⟩,
          ⟨(.p 14), .len .sl (.p 13), none⟩,
          ⟨(.p 15), .mv (.c (.int .i64 (0))), none⟩])
        (.block 0
         (.loop b9_0)))
       (.seq (.seq (.region [⟨(.l 68), .mv (.p 1), none⟩,
           ⟨(.l 69), .bin .lss (.l 68) (.c (.int .i64 (2))), none⟩])
         (.cond (.l 69)
          (.seq (.region [⟨(.p 2), .mv (.c (.bool true)), none⟩])
           (.ret))
          (.skip)))
        (.seq (.region [⟨(.l 70), .mv (.p 0), none⟩,
           ⟨(.l 71), .bin .mul (.c (.int .i64 (69621))) (.l 70), none⟩,
           ⟨(.l 72), .bin .rem (.l 71) (.c (.int .i64 (2147483647))), none⟩,
           ⟨(.p 7), .mv (.l 72), none⟩])
         (.seq (.seq (.draw [(⟨(.l 73), .mv (.p 3), none⟩, []),
             (⟨(.l 74), .mv (.p 1), none⟩, [0]),
             (⟨(.l 75), .bin .sub (.l 74) (.c (.int .i64 (1))), none⟩, [0]),
             (⟨(.l 76), .iaddr none 1 (.l 73) (.l 75), none⟩, []),
             (⟨(.l 77), .load 1 false (.l 76), none⟩, []),
             (⟨(.l 78), .mv (.p 7), none⟩, [0, 1, 2, 3, 4]),
             (⟨(.l 79), .mv (.p 1), none⟩, [0, 1, 2, 3, 4, 5]),
             (⟨(.l 80), .bin .rem (.l 78) (.l 79), none⟩, [0, 1, 2, 3, 4]),
             (⟨(.l 81), .bin .neq (.l 77) (.l 80), none⟩, [])])
           (.cond (.l 81)
            (.seq (.region [⟨(.p 2), .mv (.c (.bool false)), none⟩])
             (.ret))
            (.skip)))
          (.seq (.region [⟨(.l 83), .mv (.p 7), none⟩,
             ⟨(.l 84), .mv (.p 1), none⟩,
             ⟨(.l 85), .bin .sub (.l 84) (.c (.int .i64 (1))), none⟩,
             ⟨(.l 86), .call (.c (.fn (.func 19) [] [])) [(.l 83), (.l 85)], none⟩,
             ⟨(.l 82), .mv (.l 86), none⟩,
             ⟨(.l 87), .extract 0 (.l 82), none⟩,
             ⟨(.l 88), .extract 1 (.l 82), none⟩,
             ⟨(.p 8), .mv (.l 87), none⟩,
             ⟨(.p 9), .mv (.l 88), none⟩])
           (.seq (.seq (.region [⟨(.l 89), .mv (.p 9), none⟩,
               ⟨(.l 90), .bin .neq (.l 89) (.c (.int .i64 (0))), none⟩,
               ⟨(.l 91), .mv (.l 90), none⟩,
               ⟨(.l 92), .mv (.p 8), some ((.l 91), false)⟩,
               ⟨(.l 93), .len .sl (.l 92), some ((.l 91), false)⟩,
               ⟨(.l 94), .mv (.p 1), some ((.l 91), false)⟩,
               ⟨(.l 95), .bin .sub (.l 94) (.c (.int .i64 (1))), some ((.l 91), false)⟩,
               ⟨(.l 96), .bin .neq (.l 93) (.l 95), some ((.l 91), false)⟩,
               ⟨(.l 97), .pick (.l 91) (.c (.bool true)) (.l 96), none⟩])
             (.cond (.l 97)
              (.seq (.region [⟨(.p 2), .mv (.c (.bool false)), none⟩])
               (.ret))
              (.skip)))
            (.seq (.seq (.region [⟨(.p 16), .mv (.p 8), none⟩,
                ⟨(.p 17), .len .sl (.p 16), none⟩,
                ⟨(.p 18), .mv (.c (.int .i64 (0))), none⟩])
              (.block 2
               (.loop b9_1)))
             (.seq (.region [⟨(.p 2), .mv (.c (.bool true)), none⟩])
              (.ret)))))))))))))
theorem ft9 : FT 9 = some ⟨130, [0, 1, 4, 5, 6, 7, 9, 10, 11, 12, 13, 14, 15, 45, 46, 47, 98, 99, 100], [.var (.p 2)], b9⟩ := by kernel_rfl

/-- stadion/stadionref01.CheckDraw -/
def b20 : ICode :=
 .seq (.region [⟨(.p 2), .mv (.c (.int .i64 (0))), none⟩])
  (.seq (.seq (.region [⟨(.l 5), .mv (.p 0), none⟩,
      ⟨(.l 6), .bin .lss (.l 5) (.c (.int .i64 (1))), none⟩,
      ⟨(.l 7), .mv (.l 6), none⟩,
      ⟨(.l 8), .mv (.p 0), some ((.l 7), false)⟩,
      ⟨(.l 9), .bin .gtr (.l 8) (.c (.int .i64 (2147483646))), some ((.l 7), false)⟩,
      ⟨(.l 10), .pick (.l 7) (.c (.bool true)) (.l 9), none⟩,
      ⟨(.l 11), .mv (.l 10), none⟩,
      ⟨(.l 12), .mv (.p 1), some ((.l 11), false)⟩,
      ⟨(.l 13), .bin .lss (.l 12) (.c (.int .i64 (0))), some ((.l 11), false)⟩,
      ⟨(.l 14), .pick (.l 11) (.c (.bool true)) (.l 13), none⟩,
      ⟨(.l 15), .mv (.l 14), none⟩,
      ⟨(.l 16), .mv (.p 1), some ((.l 15), false)⟩,
      ⟨(.l 17), .bin .gtr (.l 16) (.c (.int .i64 (256))), some ((.l 15), false)⟩,
      ⟨(.l 18), .pick (.l 15) (.c (.bool true)) (.l 17), none⟩])
    (.cond (.l 18)
     (.seq (.region [⟨(.p 2), .mv (.c (.int .i64 (3))), none⟩])
      (.ret))
     (.skip)))
   (.seq (.region [⟨(.p 2), .mv (.c (.int .i64 (0))), none⟩])
    (.ret)))
theorem ft20 : FT 20 = some ⟨19, [0, 1, 4], [.var (.p 2)], b20⟩ := by kernel_rfl

end Go.Ab.Ch1

/-
  Own work: plain facts of drawn orders: an exchange after the other gives an order of the same elements; its last place and the rest.
-/
namespace Go.Ab

def lcg (key : Int) : Int := 69621 * key % 2147483647
def slot (i : Nat) (key : Int) : Int := lcg key % ((i : Int) + 1)

/-- The exchanges of a drawn order, from place i down. -/
def shuf : Nat → Int → List Int → List Int
  | 0, _, l => l
  | i + 1, key, l => shuf i (lcg key) ((l.set (i + 1) l[(slot (i + 1) key).toNat]!).set (slot (i + 1) key).toNat l[i + 1]!)
theorem shuf_length : ∀ (i : Nat) (key : Int) (l : List Int), (shuf i key l).length = l.length
  | 0, _, _ => rfl
  | i + 1, key, l => by rw [shuf, shuf_length]; simp
def upto (n : Nat) : List Int := (List.range n).map Int.ofNat
theorem upto_length (n : Nat) : (upto n).length = n := by simp [upto]
theorem upto_get {n i : Nat} (h : i < n) : (upto n)[i]? = some (i : Int) := by simp [upto, h]
theorem upto_getD {n i : Nat} (h : i < n) : (upto n)[i]! = (i : Int) := by rw [List.getElem!_eq_getElem?_getD, upto_get h]; rfl

theorem lcg_range {key : Int} : 0 ≤ lcg key ∧ lcg key < 2147483647 := by unfold lcg; omega
theorem slot_range {i : Nat} {key : Int} : 0 ≤ slot i key ∧ slot i key < (i : Int) + 1 := by
  unfold slot
  exact ⟨Int.emod_nonneg _ (by omega), Int.emod_lt_of_pos _ (by omega)⟩
theorem lcg_pos {key : Int} (h0 : 1 ≤ key) (h1 : key ≤ 2147483646) : 1 ≤ lcg key := by
  obtain ⟨h2, _⟩ := lcg_range (key := key)
  rcases Int.lt_or_eq_of_le h2 with h | h
  · omega
  · exfalso
    have hd : (2147483647 : Int) ∣ 69621 * key := by unfold lcg at h; exact Int.dvd_of_emod_eq_zero h.symm
    have hd' : 2147483647 ∣ 69621 * key.toNat := by
      have := Int.natAbs_dvd_natAbs.2 hd
      rw [Int.natAbs_mul] at this
      have e : key.natAbs = key.toNat := by omega
      rw [e] at this
      exact this
    have hc : Nat.Coprime 2147483647 69621 := by decide
    have := hc.dvd_of_dvd_mul_left hd'
    have := Nat.le_of_dvd (by omega) this
    omega

theorem swap_perm (l : List Int) {i j : Nat} (hi : i < l.length) (hj : j < l.length) : ((l.set i l[j]!).set j l[i]!).Perm l := by
  rw [getElem!_pos l i hi, getElem!_pos l j hj]
  exact List.set_set_perm hi hj

theorem shuf_perm : ∀ (i : Nat) (key : Int) (l : List Int), (i < l.length ∨ i = 0) → (shuf i key l).Perm l
  | 0, _, _, _ => List.Perm.refl _
  | i + 1, key, l, h => by
    have := slot_range (i := i + 1) (key := key)
    exact (shuf_perm i (lcg key) _ (by simp; omega)).trans (swap_perm l (by omega) (by omega))

theorem shuf_above : ∀ (i : Nat) (key : Int) (l : List Int) (j : Nat), i < j → (shuf i key l)[j]? = l[j]?
  | 0, _, _, _, _ => rfl
  | i + 1, key, l, j, h => by
    have := slot_range (i := i + 1) (key := key)
    rw [shuf, shuf_above i (lcg key) _ j (by omega), List.getElem?_set_ne (by omega), List.getElem?_set_ne (by omega)]

theorem getD_map {f : Int → Int} {l : List Int} {i : Nat} (h : i < l.length) : (l.map f)[i]! = f l[i]! := by
  rw [getElem!_pos l i h, getElem!_pos (l.map f) i (by simpa using h), List.getElem_map]
theorem getD_append {l m : List Int} {i : Nat} (h : i < l.length) : (l ++ m)[i]! = l[i]! := by
  rw [getElem!_pos l i h, getElem!_pos (l ++ m) i (by simp; omega), List.getElem_append_left h]

theorem shuf_map (f : Int → Int) : ∀ (i : Nat) (key : Int) (l : List Int), (i < l.length ∨ i = 0) → shuf i key (l.map f) = (shuf i key l).map f
  | 0, _, _, _ => rfl
  | i + 1, key, l, h => by
    have := slot_range (i := i + 1) (key := key)
    rw [shuf, shuf, ← shuf_map f i (lcg key) _ (by simp; omega), getD_map (by omega), getD_map (by omega), List.map_set, List.map_set]
theorem shuf_append (m : List Int) : ∀ (i : Nat) (key : Int) (l : List Int), (i < l.length ∨ i = 0) → shuf i key (l ++ m) = shuf i key l ++ m
  | 0, _, _, _ => rfl
  | i + 1, key, l, h => by
    have := slot_range (i := i + 1) (key := key)
    rw [shuf, shuf, ← shuf_append m i (lcg key) _ (by simp; omega), getD_append (by omega), getD_append (by omega), List.set_append_left _ _ (by omega), List.set_append_left _ _ (by simp; omega)]

/-- The first exchange. -/
theorem first_swap (m k : Nat) (hk : k ≤ m + 1) : ((upto (m + 2)).set (m + 1) (upto (m + 2))[k]!).set k (upto (m + 2))[m + 1]! = (upto (m + 1)).map (fun j : Int => if j = (k : Int) then ((m + 1 : Nat) : Int) else j) ++ [(k : Int)] := by
  rw [upto_getD (by omega), upto_getD (by omega)]
  apply List.ext_getElem?
  intro j
  rw [List.getElem?_set, List.getElem?_set]
  by_cases h1 : j < m + 1
  · rw [List.getElem?_append_left (by simp [upto_length]; omega), List.getElem?_map, upto_get h1]
    by_cases h2 : k = j
    · subst h2; rw [if_pos rfl, if_pos (by simp [upto_length]; omega)]; simp
    · rw [if_neg h2, if_neg (by omega), upto_get (by omega)]
      have : ¬ (j : Int) = k := by omega
      simp [this]
  · by_cases h2 : j = m + 1
    · subst h2
      rw [List.getElem?_append_right (by simp [upto_length])]
      simp only [List.length_map, upto_length, Nat.sub_self, List.getElem?_cons_zero, if_true, List.length_set]
      by_cases h3 : k = m + 1
      · subst h3; simp
      · rw [if_neg h3, if_pos (by omega)]
    · rw [List.getElem?_eq_none (l := _ ++ _) (by simp [upto_length]; omega), if_neg (by omega), if_neg (by omega), List.getElem?_eq_none (by simp [upto_length]; omega)]

/-- A drawn order of n = m + 2 elements: the last place; the others. -/
theorem drawn (m : Nat) (key : Int) : shuf (m + 1) key (upto (m + 2)) = (shuf m (lcg key) (upto (m + 1))).map (fun j : Int => if j = slot (m + 1) key then ((m + 1 : Nat) : Int) else j) ++ [slot (m + 1) key] := by
  have h := slot_range (i := m + 1) (key := key)
  have e : (((slot (m + 1) key).toNat : Nat) : Int) = slot (m + 1) key := by omega
  rw [shuf, first_swap m _ (by omega), shuf_append _ _ _ _ (by simp [upto_length]), shuf_map _ _ _ _ (by simp [upto_length]), e]

theorem drawn_nodup (n : Nat) (key : Int) : (shuf (n - 1) key (upto n)).Nodup := by
  rw [(shuf_perm (n - 1) key (upto n) (by rw [upto_length]; omega)).nodup_iff]
  unfold upto
  exact List.Pairwise.map _ (fun a b h e => h (Int.ofNat.inj e)) List.nodup_range
theorem drawn_mem (n : Nat) (key : Int) {x : Int} (h : x ∈ shuf (n - 1) key (upto n)) : 0 ≤ x ∧ x < n := by
  rw [(shuf_perm (n - 1) key (upto n) (by rw [upto_length]; omega)).mem_iff] at h
  simp only [upto, List.mem_map, List.mem_range] at h
  obtain ⟨a, ha, rfl⟩ := h
  exact ⟨Int.natCast_nonneg a, by show (a : Int) < n; omega⟩
end Go.Ab

/-
  Own work: mark.Draw, mark.outside, stadionref01.CheckDraw: what they compute.
-/
namespace Go.Ab.Ch1
open Go.Proofs.Tryz
variable {M : Mach}

theorem w95 (hft : M.FT = FT) (x lo hi : Int) : Run M 95 [.int .i64 x, .int .i64 lo, .int .i64 hi] [] ⟨.bool (decide (x < lo) || decide (hi < x)), [], []⟩ := by
  refine run_of_W (by rw [hft]; exact ft95) (by simp) ?_
  unfold b95
  repeat' first
    | apply W.seq
    | apply SQn
    | apply W.region
    | apply WO.nil
    | apply W.block
    | apply W.ret
    | apply W.exit
    | apply W.skip
    | apply SQr
    | apply SQe
    | apply BQn
    | apply BQr
    | apply BQe
    | (apply BQo; exact rfl)
    | apply LQe
    | apply LQr
    | (apply W.drawro; exact rfl)
    | apply W.draw
    | apply WD.nil
    | (apply WD.pure1; exact rfl)
    | (apply WD.load1; exact rfl; exact rfl; exact rfl)
    | (apply WD.store1; exact rfl; exact rfl; exact rfl)
    | (apply W.condT; exact rfl)
    | (apply W.condF; exact rfl)
    | (apply WO.gT; exact rfl)
    | (apply WO.gF; exact rfl)
    | (apply WO.sT; exact rfl)
    | (apply WO.sF; exact rfl)
    | (apply WO.lss; exact rfl; exact rfl; all_goals intro _)
    | (apply WO.leq; exact rfl; exact rfl; all_goals intro _)
    | (apply WO.gtr; exact rfl; exact rfl; all_goals intro _)
    | (apply WO.geq; exact rfl; exact rfl; all_goals intro _)
    | (apply WO.eql; exact rfl; exact rfl; all_goals intro _)
    | (apply WO.neq; exact rfl; exact rfl; all_goals intro _)
    | (apply WO.pkT; exact rfl; exact rfl)
    | (apply WO.pkF; exact rfl; exact rfl)
    | (apply WO.add; exact rfl; exact rfl; omega)
    | (apply WO.sub; exact rfl; exact rfl; omega)
    | (apply WO.mul; exact rfl; exact rfl; omega)
    | (apply WO.remp; exact rfl; exact rfl; omega; intro _ _)
    | (apply WO.quop; exact rfl; exact rfl; omega; omega; intro _ _)
    | (apply WO.rem; exact rfl; exact rfl; omega)
    | (apply WO.quo; exact rfl; exact rfl; omega; omega)
    | (apply WO.iav; exact rfl; exact rfl; omega)
    | (apply WO.ias; exact rfl; exact rfl; omega)
    | (apply WO.idx; exact rfl; exact rfl; omega)
    | (apply WO.mki; exact rfl; exact rfl; omega)
    | (apply WO.lda; exact rfl; exact fun _ => rfl; (first | omega | (simp only [List.length_set, List.length_append, List.length_cons, List.length_nil, List.length_replicate]; omega)); decide; exact rfl; case ia => infer_instance)
    | (apply WO.ldf; exact rfl; exact fun _ => rfl; (first | omega | (simp only [List.length_set, List.length_append, List.length_cons, List.length_nil, List.length_replicate]; omega)); decide; exact rfl; case ia => infer_instance)
    | (apply WO.lsa; exact rfl; (first | exact rfl | assumption | exact at_new | (apply at_old; assumption)); exact fun _ => rfl; (first | omega | (simp only [List.length_set, List.length_append, List.length_cons, List.length_nil, List.length_replicate]; omega)); decide; exact rfl; case ia => infer_instance)
    | (apply WO.lsf; exact rfl; (first | exact rfl | assumption | exact at_new | (apply at_old; assumption)); exact fun _ => rfl; (first | omega | (simp only [List.length_set, List.length_append, List.length_cons, List.length_nil, List.length_replicate]; omega)); decide; exact rfl; case ia => infer_instance)
    | (apply WO.sta; exact rfl; exact rfl; (first | exact rfl | assumption | exact at_new | (apply at_old; assumption)); exact fun _ => rfl; (first | omega | (simp only [List.length_set, List.length_append, List.length_cons, List.length_nil, List.length_replicate]; omega)); exact ⟨rfl, by decide, rfl⟩; exact rfl; case ia => infer_instance)
    | (apply WO.stf; exact rfl; exact rfl; (first | exact rfl | assumption | exact at_new | (apply at_old; assumption)); exact fun _ => rfl; (first | omega | (simp only [List.length_set, List.length_append, List.length_cons, List.length_nil, List.length_replicate]; omega)); exact ⟨rfl, by decide, rfl⟩; exact rfl; case ia => infer_instance)
    | (apply WO.pl; exact rfl; exact rfl)
    | (apply WO.pp; exact rfl; exact rfl)
  all_goals exact ⟨.inr rfl, rfl, _, rfl, by simp [tupA, *]; try omega, by simp [AV.top]⟩

theorem w20 (hft : M.FT = FT) (key n : Int) : Run M 20 [.int .i64 key, .int .i64 n] [] ⟨.int .i64 (if key < 1 ∨ 2147483646 < key ∨ n < 0 ∨ 256 < n then 3 else 0), [], []⟩ := by
  refine run_of_W (by rw [hft]; exact ft20) (by simp) ?_
  unfold b20
  repeat' first
    | apply W.seq
    | apply SQn
    | apply W.region
    | apply WO.nil
    | apply W.block
    | apply W.ret
    | apply W.exit
    | apply W.skip
    | apply SQr
    | apply SQe
    | apply BQn
    | apply BQr
    | apply BQe
    | (apply BQo; exact rfl)
    | apply LQe
    | apply LQr
    | (apply W.drawro; exact rfl)
    | apply W.draw
    | apply WD.nil
    | (apply WD.pure1; exact rfl)
    | (apply WD.load1; exact rfl; exact rfl; exact rfl)
    | (apply WD.store1; exact rfl; exact rfl; exact rfl)
    | (apply W.condT; exact rfl)
    | (apply W.condF; exact rfl)
    | (apply WO.gT; exact rfl)
    | (apply WO.gF; exact rfl)
    | (apply WO.sT; exact rfl)
    | (apply WO.sF; exact rfl)
    | (apply WO.lss; exact rfl; exact rfl; all_goals intro _)
    | (apply WO.leq; exact rfl; exact rfl; all_goals intro _)
    | (apply WO.gtr; exact rfl; exact rfl; all_goals intro _)
    | (apply WO.geq; exact rfl; exact rfl; all_goals intro _)
    | (apply WO.eql; exact rfl; exact rfl; all_goals intro _)
    | (apply WO.neq; exact rfl; exact rfl; all_goals intro _)
    | (apply WO.pkT; exact rfl; exact rfl)
    | (apply WO.pkF; exact rfl; exact rfl)
    | (apply WO.add; exact rfl; exact rfl; omega)
    | (apply WO.sub; exact rfl; exact rfl; omega)
    | (apply WO.mul; exact rfl; exact rfl; omega)
    | (apply WO.remp; exact rfl; exact rfl; omega; intro _ _)
    | (apply WO.quop; exact rfl; exact rfl; omega; omega; intro _ _)
    | (apply WO.rem; exact rfl; exact rfl; omega)
    | (apply WO.quo; exact rfl; exact rfl; omega; omega)
    | (apply WO.iav; exact rfl; exact rfl; omega)
    | (apply WO.ias; exact rfl; exact rfl; omega)
    | (apply WO.idx; exact rfl; exact rfl; omega)
    | (apply WO.mki; exact rfl; exact rfl; omega)
    | (apply WO.lda; exact rfl; exact fun _ => rfl; (first | omega | (simp only [List.length_set, List.length_append, List.length_cons, List.length_nil, List.length_replicate]; omega)); decide; exact rfl; case ia => infer_instance)
    | (apply WO.ldf; exact rfl; exact fun _ => rfl; (first | omega | (simp only [List.length_set, List.length_append, List.length_cons, List.length_nil, List.length_replicate]; omega)); decide; exact rfl; case ia => infer_instance)
    | (apply WO.lsa; exact rfl; (first | exact rfl | assumption | exact at_new | (apply at_old; assumption)); exact fun _ => rfl; (first | omega | (simp only [List.length_set, List.length_append, List.length_cons, List.length_nil, List.length_replicate]; omega)); decide; exact rfl; case ia => infer_instance)
    | (apply WO.lsf; exact rfl; (first | exact rfl | assumption | exact at_new | (apply at_old; assumption)); exact fun _ => rfl; (first | omega | (simp only [List.length_set, List.length_append, List.length_cons, List.length_nil, List.length_replicate]; omega)); decide; exact rfl; case ia => infer_instance)
    | (apply WO.sta; exact rfl; exact rfl; (first | exact rfl | assumption | exact at_new | (apply at_old; assumption)); exact fun _ => rfl; (first | omega | (simp only [List.length_set, List.length_append, List.length_cons, List.length_nil, List.length_replicate]; omega)); exact ⟨rfl, by decide, rfl⟩; exact rfl; case ia => infer_instance)
    | (apply WO.stf; exact rfl; exact rfl; (first | exact rfl | assumption | exact at_new | (apply at_old; assumption)); exact fun _ => rfl; (first | omega | (simp only [List.length_set, List.length_append, List.length_cons, List.length_nil, List.length_replicate]; omega)); exact ⟨rfl, by decide, rfl⟩; exact rfl; case ia => infer_instance)
    | (apply WO.pl; exact rfl; exact rfl)
    | (apply WO.pp; exact rfl; exact rfl)
  all_goals refine ⟨.inr rfl, rfl, _, rfl, ?_, by simp [AV.top]⟩
  all_goals first | rw [if_pos (by omega)] | rw [if_neg (by omega)]
  all_goals rfl

theorem body19_0 (n : Nat) (hn : n ≤ 1000000) (a0 a1 a2 a3 a6 a7 : AV) (df : List Nat) {Q : Ex → StW → Prop} : ∀ (r i : Nat), i + r = n → ∀ (l : List Int) (a5 : AV) (lo : List (Nat × AV)) (wr : List Nat), l.length = n →
    (∀ a5 lo wr, Q (.exit 0) ⟨⟨[a0, a1, a2, a3, .sl 0 0 n 1 (some n), a5, a6, a7, .int .i64 n, .int .i64 n], lo, [some (.cells (ints (l.take i ++ (List.range' i r).map Int.ofNat)) 3)], df⟩, wr⟩) →
    W M (.loop b19_0) ⟨⟨[a0, a1, a2, a3, .sl 0 0 n 1 (some n), a5, a6, a7, .int .i64 n, .int .i64 i], lo, [some (.cells (ints l) 3)], df⟩, wr⟩ Q
  | 0, i, hi, l, a5, lo, wr, hl, hQ => by
    obtain rfl : i = n := by omega
    rw [List.range'_zero, List.map_nil, List.append_nil, List.take_of_length_le (by omega)] at hQ
    refine W.loop ?_
    unfold b19_0
    repeat' first
      | apply W.seq
      | apply SQn
      | apply W.region
      | apply WO.nil
      | apply W.block
      | apply W.ret
      | apply W.exit
      | apply W.skip
      | apply SQr
      | apply SQe
      | apply BQn
      | apply BQr
      | apply BQe
      | (apply BQo; exact rfl)
      | apply LQe
      | apply LQr
      | (apply W.drawro; exact rfl)
      | apply W.draw
      | apply WD.nil
      | (apply WD.pure1; exact rfl)
      | (apply WD.load1; exact rfl; exact rfl; exact rfl)
      | (apply WD.store1; exact rfl; exact rfl; exact rfl)
      | (apply W.condT; exact rfl)
      | (apply W.condF; exact rfl)
      | (apply WO.gT; exact rfl)
      | (apply WO.gF; exact rfl)
      | (apply WO.sT; exact rfl)
      | (apply WO.sF; exact rfl)
      | (apply WO.lss; exact rfl; exact rfl; all_goals intro _)
      | (apply WO.leq; exact rfl; exact rfl; all_goals intro _)
      | (apply WO.gtr; exact rfl; exact rfl; all_goals intro _)
      | (apply WO.geq; exact rfl; exact rfl; all_goals intro _)
      | (apply WO.eql; exact rfl; exact rfl; all_goals intro _)
      | (apply WO.neq; exact rfl; exact rfl; all_goals intro _)
      | (apply WO.pkT; exact rfl; exact rfl)
      | (apply WO.pkF; exact rfl; exact rfl)
      | (apply WO.add; exact rfl; exact rfl; omega)
      | (apply WO.sub; exact rfl; exact rfl; omega)
      | (apply WO.mul; exact rfl; exact rfl; omega)
      | (apply WO.remp; exact rfl; exact rfl; omega; intro _ _)
      | (apply WO.quop; exact rfl; exact rfl; omega; omega; intro _ _)
      | (apply WO.rem; exact rfl; exact rfl; omega)
      | (apply WO.quo; exact rfl; exact rfl; omega; omega)
      | (apply WO.iav; exact rfl; exact rfl; omega)
      | (apply WO.ias; exact rfl; exact rfl; omega)
      | (apply WO.idx; exact rfl; exact rfl; omega)
      | (apply WO.mki; exact rfl; exact rfl; omega)
      | (apply WO.lda; exact rfl; exact fun _ => rfl; (first | omega | (simp only [List.length_set, List.length_append, List.length_cons, List.length_nil, List.length_replicate]; omega)); decide; exact rfl; case ia => infer_instance)
      | (apply WO.ldf; exact rfl; exact fun _ => rfl; (first | omega | (simp only [List.length_set, List.length_append, List.length_cons, List.length_nil, List.length_replicate]; omega)); decide; exact rfl; case ia => infer_instance)
      | (apply WO.lsa; exact rfl; (first | exact rfl | assumption | exact at_new | (apply at_old; assumption)); exact fun _ => rfl; (first | omega | (simp only [List.length_set, List.length_append, List.length_cons, List.length_nil, List.length_replicate]; omega)); decide; exact rfl; case ia => infer_instance)
      | (apply WO.lsf; exact rfl; (first | exact rfl | assumption | exact at_new | (apply at_old; assumption)); exact fun _ => rfl; (first | omega | (simp only [List.length_set, List.length_append, List.length_cons, List.length_nil, List.length_replicate]; omega)); decide; exact rfl; case ia => infer_instance)
      | (apply WO.sta; exact rfl; exact rfl; (first | exact rfl | assumption | exact at_new | (apply at_old; assumption)); exact fun _ => rfl; (first | omega | (simp only [List.length_set, List.length_append, List.length_cons, List.length_nil, List.length_replicate]; omega)); exact ⟨rfl, by decide, rfl⟩; exact rfl; case ia => infer_instance)
      | (apply WO.stf; exact rfl; exact rfl; (first | exact rfl | assumption | exact at_new | (apply at_old; assumption)); exact fun _ => rfl; (first | omega | (simp only [List.length_set, List.length_append, List.length_cons, List.length_nil, List.length_replicate]; omega)); exact ⟨rfl, by decide, rfl⟩; exact rfl; case ia => infer_instance)
      | (apply WO.pl; exact rfl; exact rfl)
      | (apply WO.pp; exact rfl; exact rfl)
    · omega
    · exact hQ _ _ _
  | r + 1, i, hi, l, a5, lo, wr, hl, hQ => by
    refine W.loop ?_
    unfold b19_0
    repeat' first
      | apply W.seq
      | apply SQn
      | apply W.region
      | apply WO.nil
      | apply W.block
      | apply W.ret
      | apply W.exit
      | apply W.skip
      | apply SQr
      | apply SQe
      | apply BQn
      | apply BQr
      | apply BQe
      | (apply BQo; exact rfl)
      | apply LQe
      | apply LQr
      | (apply W.drawro; exact rfl)
      | apply W.draw
      | apply WD.nil
      | (apply WD.pure1; exact rfl)
      | (apply WD.load1; exact rfl; exact rfl; exact rfl)
      | (apply WD.store1; exact rfl; exact rfl; exact rfl)
      | (apply W.condT; exact rfl)
      | (apply W.condF; exact rfl)
      | (apply WO.gT; exact rfl)
      | (apply WO.gF; exact rfl)
      | (apply WO.sT; exact rfl)
      | (apply WO.sF; exact rfl)
      | (apply WO.lss; exact rfl; exact rfl; all_goals intro _)
      | (apply WO.leq; exact rfl; exact rfl; all_goals intro _)
      | (apply WO.gtr; exact rfl; exact rfl; all_goals intro _)
      | (apply WO.geq; exact rfl; exact rfl; all_goals intro _)
      | (apply WO.eql; exact rfl; exact rfl; all_goals intro _)
      | (apply WO.neq; exact rfl; exact rfl; all_goals intro _)
      | (apply WO.pkT; exact rfl; exact rfl)
      | (apply WO.pkF; exact rfl; exact rfl)
      | (apply WO.add; exact rfl; exact rfl; omega)
      | (apply WO.sub; exact rfl; exact rfl; omega)
      | (apply WO.mul; exact rfl; exact rfl; omega)
      | (apply WO.remp; exact rfl; exact rfl; omega; intro _ _)
      | (apply WO.quop; exact rfl; exact rfl; omega; omega; intro _ _)
      | (apply WO.rem; exact rfl; exact rfl; omega)
      | (apply WO.quo; exact rfl; exact rfl; omega; omega)
      | (apply WO.iav; exact rfl; exact rfl; omega)
      | (apply WO.ias; exact rfl; exact rfl; omega)
      | (apply WO.idx; exact rfl; exact rfl; omega)
      | (apply WO.mki; exact rfl; exact rfl; omega)
      | (apply WO.lda; exact rfl; exact fun _ => rfl; (first | omega | (simp only [List.length_set, List.length_append, List.length_cons, List.length_nil, List.length_replicate]; omega)); decide; exact rfl; case ia => infer_instance)
      | (apply WO.ldf; exact rfl; exact fun _ => rfl; (first | omega | (simp only [List.length_set, List.length_append, List.length_cons, List.length_nil, List.length_replicate]; omega)); decide; exact rfl; case ia => infer_instance)
      | (apply WO.lsa; exact rfl; (first | exact rfl | assumption | exact at_new | (apply at_old; assumption)); exact fun _ => rfl; (first | omega | (simp only [List.length_set, List.length_append, List.length_cons, List.length_nil, List.length_replicate]; omega)); decide; exact rfl; case ia => infer_instance)
      | (apply WO.lsf; exact rfl; (first | exact rfl | assumption | exact at_new | (apply at_old; assumption)); exact fun _ => rfl; (first | omega | (simp only [List.length_set, List.length_append, List.length_cons, List.length_nil, List.length_replicate]; omega)); decide; exact rfl; case ia => infer_instance)
      | (apply WO.sta; exact rfl; exact rfl; (first | exact rfl | assumption | exact at_new | (apply at_old; assumption)); exact fun _ => rfl; (first | omega | (simp only [List.length_set, List.length_append, List.length_cons, List.length_nil, List.length_replicate]; omega)); exact ⟨rfl, by decide, rfl⟩; exact rfl; case ia => infer_instance)
      | (apply WO.stf; exact rfl; exact rfl; (first | exact rfl | assumption | exact at_new | (apply at_old; assumption)); exact fun _ => rfl; (first | omega | (simp only [List.length_set, List.length_append, List.length_cons, List.length_nil, List.length_replicate]; omega)); exact ⟨rfl, by decide, rfl⟩; exact rfl; case ia => infer_instance)
      | (apply WO.pl; exact rfl; exact rfl)
      | (apply WO.pp; exact rfl; exact rfl)
    · refine LQn (body19_0 n hn a0 a1 a2 a3 a6 a7 df r (i + 1) (by omega) (l.set i (i : Int)) (.int .i64 i) _ _ (by simp [hl]) fun a5 lo wr => ?_)
      have e : (l.set i (i : Int)).take (i + 1) ++ (List.range' (i + 1) r).map Int.ofNat = l.take i ++ (List.range' i (r + 1)).map Int.ofNat := by
        have t1 : (l.set i (i : Int)).take (i + 1) = l.take i ++ [(i : Int)] := by
          rw [List.take_add_one, List.take_set_of_le (Nat.le_refl _), List.getElem?_set]
          simp [hl]; omega
        rw [t1, List.range'_succ]
        simp
      rw [e]
      exact hQ a5 lo wr
    · omega

set_option maxHeartbeats 2000000 in
theorem body19_1 (n : Nat) (hn : n ≤ 1000000) (N a2 a3 a5 a8 a9 : AV) (df : List Nat) {Q : Ex → StW → Prop} : ∀ (i : Nat), (i < n ∨ i = 0) → ∀ (key : Int) (l : List Int) (a7 : AV) (lo : List (Nat × AV)) (wr : List Nat), l.length = n → 0 ≤ key → key < 2147483647 →
    (∀ key' a7 lo wr, Q (.exit 2) ⟨⟨[.int .i64 key', N, a2, a3, .sl 0 0 n 1 (some n), a5, .int .i64 0, a7, a8, a9], lo, [some (.cells (ints (shuf i key l)) 3)], df⟩, wr⟩) →
    W M (.loop b19_1) ⟨⟨[.int .i64 key, N, a2, a3, .sl 0 0 n 1 (some n), a5, .int .i64 i, a7, a8, a9], lo, [some (.cells (ints l) 3)], df⟩, wr⟩ Q
  | 0, hi, key, l, a7, lo, wr, hl, hk0, hk1, hQ => by
    refine W.loop ?_
    unfold b19_1
    repeat' first
      | apply W.seq
      | apply SQn
      | apply W.region
      | apply WO.nil
      | apply W.block
      | apply W.ret
      | apply W.exit
      | apply W.skip
      | apply SQr
      | apply SQe
      | apply BQn
      | apply BQr
      | apply BQe
      | (apply BQo; exact rfl)
      | apply LQe
      | apply LQr
      | (apply W.drawro; exact rfl)
      | apply W.draw
      | apply WD.nil
      | (apply WD.pure1; exact rfl)
      | (apply WD.load1; exact rfl; exact rfl; exact rfl)
      | (apply WD.store1; exact rfl; exact rfl; exact rfl)
      | (apply W.condT; exact rfl)
      | (apply W.condF; exact rfl)
      | (apply WO.gT; exact rfl)
      | (apply WO.gF; exact rfl)
      | (apply WO.sT; exact rfl)
      | (apply WO.sF; exact rfl)
      | (apply WO.lss; exact rfl; exact rfl; all_goals intro _)
      | (apply WO.leq; exact rfl; exact rfl; all_goals intro _)
      | (apply WO.gtr; exact rfl; exact rfl; all_goals intro _)
      | (apply WO.geq; exact rfl; exact rfl; all_goals intro _)
      | (apply WO.eql; exact rfl; exact rfl; all_goals intro _)
      | (apply WO.neq; exact rfl; exact rfl; all_goals intro _)
      | (apply WO.pkT; exact rfl; exact rfl)
      | (apply WO.pkF; exact rfl; exact rfl)
      | (apply WO.add; exact rfl; exact rfl; omega)
      | (apply WO.sub; exact rfl; exact rfl; omega)
      | (apply WO.mul; exact rfl; exact rfl; omega)
      | (apply WO.remp; exact rfl; exact rfl; omega; intro _ _)
      | (apply WO.quop; exact rfl; exact rfl; omega; omega; intro _ _)
      | (apply WO.rem; exact rfl; exact rfl; omega)
      | (apply WO.quo; exact rfl; exact rfl; omega; omega)
      | (apply WO.iav; exact rfl; exact rfl; omega)
      | (apply WO.ias; exact rfl; exact rfl; omega)
      | (apply WO.idx; exact rfl; exact rfl; omega)
      | (apply WO.mki; exact rfl; exact rfl; omega)
      | (apply WO.lda; exact rfl; exact fun _ => rfl; (first | omega | (simp only [List.length_set, List.length_append, List.length_cons, List.length_nil, List.length_replicate]; omega)); decide; exact rfl; case ia => infer_instance)
      | (apply WO.ldf; exact rfl; exact fun _ => rfl; (first | omega | (simp only [List.length_set, List.length_append, List.length_cons, List.length_nil, List.length_replicate]; omega)); decide; exact rfl; case ia => infer_instance)
      | (apply WO.lsa; exact rfl; (first | exact rfl | assumption | exact at_new | (apply at_old; assumption)); exact fun _ => rfl; (first | omega | (simp only [List.length_set, List.length_append, List.length_cons, List.length_nil, List.length_replicate]; omega)); decide; exact rfl; case ia => infer_instance)
      | (apply WO.lsf; exact rfl; (first | exact rfl | assumption | exact at_new | (apply at_old; assumption)); exact fun _ => rfl; (first | omega | (simp only [List.length_set, List.length_append, List.length_cons, List.length_nil, List.length_replicate]; omega)); decide; exact rfl; case ia => infer_instance)
      | (apply WO.sta; exact rfl; exact rfl; (first | exact rfl | assumption | exact at_new | (apply at_old; assumption)); exact fun _ => rfl; (first | omega | (simp only [List.length_set, List.length_append, List.length_cons, List.length_nil, List.length_replicate]; omega)); exact ⟨rfl, by decide, rfl⟩; exact rfl; case ia => infer_instance)
      | (apply WO.stf; exact rfl; exact rfl; (first | exact rfl | assumption | exact at_new | (apply at_old; assumption)); exact fun _ => rfl; (first | omega | (simp only [List.length_set, List.length_append, List.length_cons, List.length_nil, List.length_replicate]; omega)); exact ⟨rfl, by decide, rfl⟩; exact rfl; case ia => infer_instance)
      | (apply WO.pl; exact rfl; exact rfl)
      | (apply WO.pp; exact rfl; exact rfl)
    · omega
    · exact hQ _ _ _ _
  | i + 1, hi, key, l, a7, lo, wr, hl, hk0, hk1, hQ => by
    refine W.loop ?_
    unfold b19_1
    repeat' first
      | apply W.seq
      | apply SQn
      | apply W.region
      | apply WO.nil
      | apply W.block
      | apply W.ret
      | apply W.exit
      | apply W.skip
      | apply SQr
      | apply SQe
      | apply BQn
      | apply BQr
      | apply BQe
      | (apply BQo; exact rfl)
      | apply LQe
      | apply LQr
      | (apply W.drawro; exact rfl)
      | apply W.draw
      | apply WD.nil
      | (apply WD.pure1; exact rfl)
      | (apply WD.load1; exact rfl; exact rfl; exact rfl)
      | (apply WD.store1; exact rfl; exact rfl; exact rfl)
      | (apply W.condT; exact rfl)
      | (apply W.condF; exact rfl)
      | (apply WO.gT; exact rfl)
      | (apply WO.gF; exact rfl)
      | (apply WO.sT; exact rfl)
      | (apply WO.sF; exact rfl)
      | (apply WO.lss; exact rfl; exact rfl; all_goals intro _)
      | (apply WO.leq; exact rfl; exact rfl; all_goals intro _)
      | (apply WO.gtr; exact rfl; exact rfl; all_goals intro _)
      | (apply WO.geq; exact rfl; exact rfl; all_goals intro _)
      | (apply WO.eql; exact rfl; exact rfl; all_goals intro _)
      | (apply WO.neq; exact rfl; exact rfl; all_goals intro _)
      | (apply WO.pkT; exact rfl; exact rfl)
      | (apply WO.pkF; exact rfl; exact rfl)
      | (apply WO.add; exact rfl; exact rfl; omega)
      | (apply WO.sub; exact rfl; exact rfl; omega)
      | (apply WO.mul; exact rfl; exact rfl; omega)
      | (apply WO.remp; exact rfl; exact rfl; omega; intro _ _)
      | (apply WO.quop; exact rfl; exact rfl; omega; omega; intro _ _)
      | (apply WO.rem; exact rfl; exact rfl; omega)
      | (apply WO.quo; exact rfl; exact rfl; omega; omega)
      | (apply WO.iav; exact rfl; exact rfl; omega)
      | (apply WO.ias; exact rfl; exact rfl; omega)
      | (apply WO.idx; exact rfl; exact rfl; omega)
      | (apply WO.mki; exact rfl; exact rfl; omega)
      | (apply WO.lda; exact rfl; exact fun _ => rfl; (first | omega | (simp only [List.length_set, List.length_append, List.length_cons, List.length_nil, List.length_replicate]; omega)); decide; exact rfl; case ia => infer_instance)
      | (apply WO.ldf; exact rfl; exact fun _ => rfl; (first | omega | (simp only [List.length_set, List.length_append, List.length_cons, List.length_nil, List.length_replicate]; omega)); decide; exact rfl; case ia => infer_instance)
      | (apply WO.lsa; exact rfl; (first | exact rfl | assumption | exact at_new | (apply at_old; assumption)); exact fun _ => rfl; (first | omega | (simp only [List.length_set, List.length_append, List.length_cons, List.length_nil, List.length_replicate]; omega)); decide; exact rfl; case ia => infer_instance)
      | (apply WO.lsf; exact rfl; (first | exact rfl | assumption | exact at_new | (apply at_old; assumption)); exact fun _ => rfl; (first | omega | (simp only [List.length_set, List.length_append, List.length_cons, List.length_nil, List.length_replicate]; omega)); decide; exact rfl; case ia => infer_instance)
      | (apply WO.sta; exact rfl; exact rfl; (first | exact rfl | assumption | exact at_new | (apply at_old; assumption)); exact fun _ => rfl; (first | omega | (simp only [List.length_set, List.length_append, List.length_cons, List.length_nil, List.length_replicate]; omega)); exact ⟨rfl, by decide, rfl⟩; exact rfl; case ia => infer_instance)
      | (apply WO.stf; exact rfl; exact rfl; (first | exact rfl | assumption | exact at_new | (apply at_old; assumption)); exact fun _ => rfl; (first | omega | (simp only [List.length_set, List.length_append, List.length_cons, List.length_nil, List.length_replicate]; omega)); exact ⟨rfl, by decide, rfl⟩; exact rfl; case ia => infer_instance)
      | (apply WO.pl; exact rfl; exact rfl)
      | (apply WO.pp; exact rfl; exact rfl)
    · refine LQn ?_
      rw [show ((i + 1 : Nat) : Int) - 1 = (i : Int) from by omega]
      exact body19_1 n hn N a2 a3 a5 a8 a9 df i (by omega) (lcg key) ((l.set (i + 1) l[(slot (i + 1) key).toNat]!).set (slot (i + 1) key).toNat l[i + 1]!) _ _ _ (by simp [hl]) (by assumption) (by assumption) hQ
    · omega

set_option maxHeartbeats 2000000 in
theorem w19 (hft : M.FT = FT) (h95 : ∀ x lo hi h, M.ext 95 [.int .i64 x, .int .i64 lo, .int .i64 hi] h = some ⟨.bool (decide (x < lo) || decide (hi < x)), h, []⟩) (key : Int) (n : Nat) (hk0 : 1 ≤ key) (hk1 : key ≤ 2147483646) (hn : n ≤ 256) :
    Run M 19 [.int .i64 key, .int .i64 n] [] ⟨.tup [.sl 0 0 n 1 (some n), .int .i64 0], [some (.cells (ints (shuf (n - 1) key (upto n))) 3)], []⟩ := by
  have c1 : ¬ key < 1 := by omega
  have c2 : ¬ 2147483646 < key := by omega
  have c3 : ¬ (n : Int) < 0 := by omega
  have c4 : ¬ 256 < (n : Int) := by omega
  have f1 : ∀ h, M.ext 95 [.int .i64 key, .int .i64 1, .int .i64 2147483646] h = some ⟨.bool false, h, []⟩ := fun h => by rw [h95]; simp [c1, c2]
  have f2 : ∀ h, M.ext 95 [.int .i64 n, .int .i64 0, .int .i64 256] h = some ⟨.bool false, h, []⟩ := fun h => by rw [h95]; simp [c3, c4]
  refine run_of_W (by rw [hft]; exact ft19) (by simp) ?_
  unfold b19
  simp only [List.map_cons, List.map_nil, List.getElem?_cons_zero, List.getElem?_cons_succ, List.getElem?_nil, Option.getD_some, Option.getD_none]
  repeat' first
    | apply W.seq
    | apply SQn
    | apply W.region
    | apply WO.nil
    | apply W.block
    | apply W.ret
    | apply W.exit
    | apply W.skip
    | apply SQr
    | apply SQe
    | apply BQn
    | apply BQr
    | apply BQe
    | (apply BQo; exact rfl)
    | apply LQe
    | apply LQr
    | (apply W.drawro; exact rfl)
    | apply W.draw
    | apply WD.nil
    | (apply WD.pure1; exact rfl)
    | (apply WD.load1; exact rfl; exact rfl; exact rfl)
    | (apply WD.store1; exact rfl; exact rfl; exact rfl)
    | (apply W.condT; exact rfl)
    | (apply W.condF; exact rfl)
    | (apply WO.gT; exact rfl)
    | (apply WO.gF; exact rfl)
    | (apply WO.sT; exact rfl)
    | (apply WO.sF; exact rfl)
    | (apply WO.lss; exact rfl; exact rfl; all_goals intro _)
    | (apply WO.leq; exact rfl; exact rfl; all_goals intro _)
    | (apply WO.gtr; exact rfl; exact rfl; all_goals intro _)
    | (apply WO.geq; exact rfl; exact rfl; all_goals intro _)
    | (apply WO.eql; exact rfl; exact rfl; all_goals intro _)
    | (apply WO.neq; exact rfl; exact rfl; all_goals intro _)
    | (apply WO.pkT; exact rfl; exact rfl)
    | (apply WO.pkF; exact rfl; exact rfl)
    | (apply WO.add; exact rfl; exact rfl; omega)
    | (apply WO.sub; exact rfl; exact rfl; omega)
    | (apply WO.mul; exact rfl; exact rfl; omega)
    | (apply WO.remp; exact rfl; exact rfl; omega; intro _ _)
    | (apply WO.quop; exact rfl; exact rfl; omega; omega; intro _ _)
    | (apply WO.rem; exact rfl; exact rfl; omega)
    | (apply WO.quo; exact rfl; exact rfl; omega; omega)
    | (apply WO.cll; exact rfl; exact rfl; first | exact f1 _ | exact f2 _)
    | (apply WO.iav; exact rfl; exact rfl; omega)
    | (apply WO.ias; exact rfl; exact rfl; omega)
    | (apply WO.idx; exact rfl; exact rfl; omega)
    | (apply WO.mki; exact rfl; exact rfl; omega)
    | (apply WO.lda; exact rfl; exact fun _ => rfl; (first | omega | (simp only [List.length_set, List.length_append, List.length_cons, List.length_nil, List.length_replicate]; omega)); decide; exact rfl; case ia => infer_instance)
    | (apply WO.ldf; exact rfl; exact fun _ => rfl; (first | omega | (simp only [List.length_set, List.length_append, List.length_cons, List.length_nil, List.length_replicate]; omega)); decide; exact rfl; case ia => infer_instance)
    | (apply WO.lsa; exact rfl; (first | exact rfl | assumption | exact at_new | (apply at_old; assumption)); exact fun _ => rfl; (first | omega | (simp only [List.length_set, List.length_append, List.length_cons, List.length_nil, List.length_replicate]; omega)); decide; exact rfl; case ia => infer_instance)
    | (apply WO.lsf; exact rfl; (first | exact rfl | assumption | exact at_new | (apply at_old; assumption)); exact fun _ => rfl; (first | omega | (simp only [List.length_set, List.length_append, List.length_cons, List.length_nil, List.length_replicate]; omega)); decide; exact rfl; case ia => infer_instance)
    | (apply WO.sta; exact rfl; exact rfl; (first | exact rfl | assumption | exact at_new | (apply at_old; assumption)); exact fun _ => rfl; (first | omega | (simp only [List.length_set, List.length_append, List.length_cons, List.length_nil, List.length_replicate]; omega)); exact ⟨rfl, by decide, rfl⟩; exact rfl; case ia => infer_instance)
    | (apply WO.stf; exact rfl; exact rfl; (first | exact rfl | assumption | exact at_new | (apply at_old; assumption)); exact fun _ => rfl; (first | omega | (simp only [List.length_set, List.length_append, List.length_cons, List.length_nil, List.length_replicate]; omega)); exact ⟨rfl, by decide, rfl⟩; exact rfl; case ia => infer_instance)
    | (apply WO.pl; exact rfl; exact rfl)
    | (apply WO.pp; exact rfl; exact rfl)
  refine body19_0 n (by omega) _ _ _ _ _ _ _ n 0 (by omega) (List.replicate n 0) _ _ _ (by simp) (fun a5 lo wr => ?_)
  have e0 : List.take 0 (List.replicate n (0 : Int)) ++ (List.range' 0 n).map Int.ofNat = upto n := by simp [upto, List.range_eq_range']
  rw [e0]
  repeat' first
    | apply W.seq
    | apply SQn
    | apply W.region
    | apply WO.nil
    | apply W.block
    | apply W.ret
    | apply W.exit
    | apply W.skip
    | apply SQr
    | apply SQe
    | apply BQn
    | apply BQr
    | apply BQe
    | (apply BQo; exact rfl)
    | apply LQe
    | apply LQr
    | (apply W.drawro; exact rfl)
    | apply W.draw
    | apply WD.nil
    | (apply WD.pure1; exact rfl)
    | (apply WD.load1; exact rfl; exact rfl; exact rfl)
    | (apply WD.store1; exact rfl; exact rfl; exact rfl)
    | (apply W.condT; exact rfl)
    | (apply W.condF; exact rfl)
    | (apply WO.gT; exact rfl)
    | (apply WO.gF; exact rfl)
    | (apply WO.sT; exact rfl)
    | (apply WO.sF; exact rfl)
    | (apply WO.lss; exact rfl; exact rfl; all_goals intro _)
    | (apply WO.leq; exact rfl; exact rfl; all_goals intro _)
    | (apply WO.gtr; exact rfl; exact rfl; all_goals intro _)
    | (apply WO.geq; exact rfl; exact rfl; all_goals intro _)
    | (apply WO.eql; exact rfl; exact rfl; all_goals intro _)
    | (apply WO.neq; exact rfl; exact rfl; all_goals intro _)
    | (apply WO.pkT; exact rfl; exact rfl)
    | (apply WO.pkF; exact rfl; exact rfl)
    | (apply WO.add; exact rfl; exact rfl; omega)
    | (apply WO.sub; exact rfl; exact rfl; omega)
    | (apply WO.mul; exact rfl; exact rfl; omega)
    | (apply WO.remp; exact rfl; exact rfl; omega; intro _ _)
    | (apply WO.quop; exact rfl; exact rfl; omega; omega; intro _ _)
    | (apply WO.rem; exact rfl; exact rfl; omega)
    | (apply WO.quo; exact rfl; exact rfl; omega; omega)
    | (apply WO.iav; exact rfl; exact rfl; omega)
    | (apply WO.ias; exact rfl; exact rfl; omega)
    | (apply WO.idx; exact rfl; exact rfl; omega)
    | (apply WO.mki; exact rfl; exact rfl; omega)
    | (apply WO.lda; exact rfl; exact fun _ => rfl; (first | omega | (simp only [List.length_set, List.length_append, List.length_cons, List.length_nil, List.length_replicate]; omega)); decide; exact rfl; case ia => infer_instance)
    | (apply WO.ldf; exact rfl; exact fun _ => rfl; (first | omega | (simp only [List.length_set, List.length_append, List.length_cons, List.length_nil, List.length_replicate]; omega)); decide; exact rfl; case ia => infer_instance)
    | (apply WO.lsa; exact rfl; (first | exact rfl | assumption | exact at_new | (apply at_old; assumption)); exact fun _ => rfl; (first | omega | (simp only [List.length_set, List.length_append, List.length_cons, List.length_nil, List.length_replicate]; omega)); decide; exact rfl; case ia => infer_instance)
    | (apply WO.lsf; exact rfl; (first | exact rfl | assumption | exact at_new | (apply at_old; assumption)); exact fun _ => rfl; (first | omega | (simp only [List.length_set, List.length_append, List.length_cons, List.length_nil, List.length_replicate]; omega)); decide; exact rfl; case ia => infer_instance)
    | (apply WO.sta; exact rfl; exact rfl; (first | exact rfl | assumption | exact at_new | (apply at_old; assumption)); exact fun _ => rfl; (first | omega | (simp only [List.length_set, List.length_append, List.length_cons, List.length_nil, List.length_replicate]; omega)); exact ⟨rfl, by decide, rfl⟩; exact rfl; case ia => infer_instance)
    | (apply WO.stf; exact rfl; exact rfl; (first | exact rfl | assumption | exact at_new | (apply at_old; assumption)); exact fun _ => rfl; (first | omega | (simp only [List.length_set, List.length_append, List.length_cons, List.length_nil, List.length_replicate]; omega)); exact ⟨rfl, by decide, rfl⟩; exact rfl; case ia => infer_instance)
    | (apply WO.pl; exact rfl; exact rfl)
    | (apply WO.pp; exact rfl; exact rfl)
  rcases Nat.eq_zero_or_pos n with h0 | h0
  · subst h0
    refine W.loop ?_
    unfold b19_1
    repeat' first
      | apply W.seq
      | apply SQn
      | apply W.region
      | apply WO.nil
      | apply W.block
      | apply W.ret
      | apply W.exit
      | apply W.skip
      | apply SQr
      | apply SQe
      | apply BQn
      | apply BQr
      | apply BQe
      | (apply BQo; exact rfl)
      | apply LQe
      | apply LQr
      | (apply W.drawro; exact rfl)
      | apply W.draw
      | apply WD.nil
      | (apply WD.pure1; exact rfl)
      | (apply WD.load1; exact rfl; exact rfl; exact rfl)
      | (apply WD.store1; exact rfl; exact rfl; exact rfl)
      | (apply W.condT; exact rfl)
      | (apply W.condF; exact rfl)
      | (apply WO.gT; exact rfl)
      | (apply WO.gF; exact rfl)
      | (apply WO.sT; exact rfl)
      | (apply WO.sF; exact rfl)
      | (apply WO.lss; exact rfl; exact rfl; all_goals intro _)
      | (apply WO.leq; exact rfl; exact rfl; all_goals intro _)
      | (apply WO.gtr; exact rfl; exact rfl; all_goals intro _)
      | (apply WO.geq; exact rfl; exact rfl; all_goals intro _)
      | (apply WO.eql; exact rfl; exact rfl; all_goals intro _)
      | (apply WO.neq; exact rfl; exact rfl; all_goals intro _)
      | (apply WO.pkT; exact rfl; exact rfl)
      | (apply WO.pkF; exact rfl; exact rfl)
      | (apply WO.add; exact rfl; exact rfl; omega)
      | (apply WO.sub; exact rfl; exact rfl; omega)
      | (apply WO.mul; exact rfl; exact rfl; omega)
      | (apply WO.remp; exact rfl; exact rfl; omega; intro _ _)
      | (apply WO.quop; exact rfl; exact rfl; omega; omega; intro _ _)
      | (apply WO.rem; exact rfl; exact rfl; omega)
      | (apply WO.quo; exact rfl; exact rfl; omega; omega)
      | (apply WO.iav; exact rfl; exact rfl; omega)
      | (apply WO.ias; exact rfl; exact rfl; omega)
      | (apply WO.idx; exact rfl; exact rfl; omega)
      | (apply WO.mki; exact rfl; exact rfl; omega)
      | (apply WO.lda; exact rfl; exact fun _ => rfl; (first | omega | (simp only [List.length_set, List.length_append, List.length_cons, List.length_nil, List.length_replicate]; omega)); decide; exact rfl; case ia => infer_instance)
      | (apply WO.ldf; exact rfl; exact fun _ => rfl; (first | omega | (simp only [List.length_set, List.length_append, List.length_cons, List.length_nil, List.length_replicate]; omega)); decide; exact rfl; case ia => infer_instance)
      | (apply WO.lsa; exact rfl; (first | exact rfl | assumption | exact at_new | (apply at_old; assumption)); exact fun _ => rfl; (first | omega | (simp only [List.length_set, List.length_append, List.length_cons, List.length_nil, List.length_replicate]; omega)); decide; exact rfl; case ia => infer_instance)
      | (apply WO.lsf; exact rfl; (first | exact rfl | assumption | exact at_new | (apply at_old; assumption)); exact fun _ => rfl; (first | omega | (simp only [List.length_set, List.length_append, List.length_cons, List.length_nil, List.length_replicate]; omega)); decide; exact rfl; case ia => infer_instance)
      | (apply WO.sta; exact rfl; exact rfl; (first | exact rfl | assumption | exact at_new | (apply at_old; assumption)); exact fun _ => rfl; (first | omega | (simp only [List.length_set, List.length_append, List.length_cons, List.length_nil, List.length_replicate]; omega)); exact ⟨rfl, by decide, rfl⟩; exact rfl; case ia => infer_instance)
      | (apply WO.stf; exact rfl; exact rfl; (first | exact rfl | assumption | exact at_new | (apply at_old; assumption)); exact fun _ => rfl; (first | omega | (simp only [List.length_set, List.length_append, List.length_cons, List.length_nil, List.length_replicate]; omega)); exact ⟨rfl, by decide, rfl⟩; exact rfl; case ia => infer_instance)
      | (apply WO.pl; exact rfl; exact rfl)
      | (apply WO.pp; exact rfl; exact rfl)
    · omega
    · exact ⟨.inr rfl, rfl, _, rfl, rfl, rfl⟩
  · rw [show (n : Int) - 1 = ((n - 1 : Nat) : Int) from by omega]
    refine body19_1 n (by omega) _ _ _ _ _ _ _ (n - 1) (by omega) key (upto n) _ _ _ (by simp [upto]) (by omega) (by omega) (fun key' a7 lo wr => ?_)
    repeat' first
      | apply W.seq
      | apply SQn
      | apply W.region
      | apply WO.nil
      | apply W.block
      | apply W.ret
      | apply W.exit
      | apply W.skip
      | apply SQr
      | apply SQe
      | apply BQn
      | apply BQr
      | apply BQe
      | (apply BQo; exact rfl)
      | apply LQe
      | apply LQr
      | (apply W.drawro; exact rfl)
      | apply W.draw
      | apply WD.nil
      | (apply WD.pure1; exact rfl)
      | (apply WD.load1; exact rfl; exact rfl; exact rfl)
      | (apply WD.store1; exact rfl; exact rfl; exact rfl)
      | (apply W.condT; exact rfl)
      | (apply W.condF; exact rfl)
      | (apply WO.gT; exact rfl)
      | (apply WO.gF; exact rfl)
      | (apply WO.sT; exact rfl)
      | (apply WO.sF; exact rfl)
      | (apply WO.lss; exact rfl; exact rfl; all_goals intro _)
      | (apply WO.leq; exact rfl; exact rfl; all_goals intro _)
      | (apply WO.gtr; exact rfl; exact rfl; all_goals intro _)
      | (apply WO.geq; exact rfl; exact rfl; all_goals intro _)
      | (apply WO.eql; exact rfl; exact rfl; all_goals intro _)
      | (apply WO.neq; exact rfl; exact rfl; all_goals intro _)
      | (apply WO.pkT; exact rfl; exact rfl)
      | (apply WO.pkF; exact rfl; exact rfl)
      | (apply WO.add; exact rfl; exact rfl; omega)
      | (apply WO.sub; exact rfl; exact rfl; omega)
      | (apply WO.mul; exact rfl; exact rfl; omega)
      | (apply WO.remp; exact rfl; exact rfl; omega; intro _ _)
      | (apply WO.quop; exact rfl; exact rfl; omega; omega; intro _ _)
      | (apply WO.rem; exact rfl; exact rfl; omega)
      | (apply WO.quo; exact rfl; exact rfl; omega; omega)
      | (apply WO.iav; exact rfl; exact rfl; omega)
      | (apply WO.ias; exact rfl; exact rfl; omega)
      | (apply WO.idx; exact rfl; exact rfl; omega)
      | (apply WO.mki; exact rfl; exact rfl; omega)
      | (apply WO.lda; exact rfl; exact fun _ => rfl; (first | omega | (simp only [List.length_set, List.length_append, List.length_cons, List.length_nil, List.length_replicate]; omega)); decide; exact rfl; case ia => infer_instance)
      | (apply WO.ldf; exact rfl; exact fun _ => rfl; (first | omega | (simp only [List.length_set, List.length_append, List.length_cons, List.length_nil, List.length_replicate]; omega)); decide; exact rfl; case ia => infer_instance)
      | (apply WO.lsa; exact rfl; (first | exact rfl | assumption | exact at_new | (apply at_old; assumption)); exact fun _ => rfl; (first | omega | (simp only [List.length_set, List.length_append, List.length_cons, List.length_nil, List.length_replicate]; omega)); decide; exact rfl; case ia => infer_instance)
      | (apply WO.lsf; exact rfl; (first | exact rfl | assumption | exact at_new | (apply at_old; assumption)); exact fun _ => rfl; (first | omega | (simp only [List.length_set, List.length_append, List.length_cons, List.length_nil, List.length_replicate]; omega)); decide; exact rfl; case ia => infer_instance)
      | (apply WO.sta; exact rfl; exact rfl; (first | exact rfl | assumption | exact at_new | (apply at_old; assumption)); exact fun _ => rfl; (first | omega | (simp only [List.length_set, List.length_append, List.length_cons, List.length_nil, List.length_replicate]; omega)); exact ⟨rfl, by decide, rfl⟩; exact rfl; case ia => infer_instance)
      | (apply WO.stf; exact rfl; exact rfl; (first | exact rfl | assumption | exact at_new | (apply at_old; assumption)); exact fun _ => rfl; (first | omega | (simp only [List.length_set, List.length_append, List.length_cons, List.length_nil, List.length_replicate]; omega)); exact ⟨rfl, by decide, rfl⟩; exact rfl; case ia => infer_instance)
      | (apply WO.pl; exact rfl; exact rfl)
      | (apply WO.pp; exact rfl; exact rfl)
    exact ⟨.inr rfl, rfl, _, rfl, rfl, by simp [AV.top, topL]⟩
end Go.Ab.Ch1

/-
  Own work: contracts of chapter 1 as a table.
-/
namespace Go.Ab
open Go.ChangeShapes Go.WideShapes Go.RowKit
variable {P : Program} {gl : Nat → Option AV}

theorem mach_ft {FT : FuncId → Option IFunc} {T : List (Nat × Spec)} : (mach P FT T).FT = FT := rfl
theorem mach_ext {FT : FuncId → Option IFunc} {T : List (Nat × Spec)} : (mach P FT T).ext = extS T := rfl

/-- A law that answers true, as the kit's contract. -/
theorem calls_true {FT : FuncId → Option IFunc} (hs : Seat P gl FT) {T : List (Nat × Spec)} (hT : ExtOK P gl (extS T)) {f : Nat} {xs : List AV} {w : World} (hr : Run (mach P FT T) f xs [] ⟨.bool true, [], []⟩)
    (hgl : ∀ g v, gl g = some v → V bare w v (.pointer (some ⟨g, 0, none⟩))) {as' : List Value} (hv : VL bare w xs as') : Calls P f as'.toArray w fun e w' => e = .returned (.bool true) ∧ Below w.heap.size w w' := by
  obtain ⟨n, hn⟩ := hr
  refine (calls_of_run hs.mix hT hs.ft hn hgl hv).mono fun e w' he => ?_
  obtain ⟨v', h1, ⟨ρ', h2⟩, h3⟩ := he
  cases h2
  exact ⟨h1, below_of h3⟩
end Go.Ab
namespace Go.Ab.Ch1
open Go.Proofs

def s18 : Spec := spec0 [] (.bool true)
theorem s18_ok : SpecOK Tryz.prog gl 18 s18 := spec0_ok gl_top rfl rfl o22
theorem s18_eq (h : Heap) : s18 [] h = some ⟨.bool true, h, []⟩ := rfl

def s95 : Spec := fun
  | [.int .i64 x, .int .i64 lo, .int .i64 hi], h => some ⟨.bool (decide (x < lo) || decide (hi < x)), h, []⟩
  | _, _ => none
theorem s95_ok : SpecOK Tryz.prog gl 95 s95 := by
  intro xs h r hq
  unfold s95 at hq
  split at hq
  · cases hq
    exact ent_run0 seat tab_nil (w95 (M := mach Tryz.prog FT []) mach_ft _ _ _) (FrL.same rfl) rfl (.inl rfl)
  · cases hq

def s20 : Spec := fun
  | [.int .i64 key, .int .i64 n], h => some ⟨.int .i64 (if key < 1 ∨ 2147483646 < key ∨ n < 0 ∨ 256 < n then 3 else 0), h, []⟩
  | _, _ => none
theorem s20_ok : SpecOK Tryz.prog gl 20 s20 := by
  intro xs h r hq
  unfold s20 at hq
  split at hq
  · cases hq
    exact ent_run0 seat tab_nil (w20 (M := mach Tryz.prog FT []) mach_ft _ _) (FrL.same rfl) rfl (.inl rfl)
  · cases hq

def s19 : Spec := fun
  | [.int .i64 key, .int .i64 n], h => if 1 ≤ key ∧ key ≤ 2147483646 ∧ 0 ≤ n ∧ n ≤ 256 then some ⟨.tup [.sl h.length 0 n.toNat 1 (some n.toNat), .int .i64 0], h ++ [some (.cells (ints (shuf (n.toNat - 1) key (upto n.toNat))) 3)], []⟩ else none
  | _, _ => none
def T95 : List (Nat × Spec) := [(95, s95)]
theorem T95_ok : ExtOK Tryz.prog gl (extS T95) := tab_cons s95_ok tab_nil
theorem ints_top (l : List Int) : topL (ints l) = 0 := topL_arr (fun _ => rfl) l
theorem s19_ok : SpecOK Tryz.prog gl 19 s19 := by
  intro xs h r hq
  unfold s19 at hq
  split at hq
  · rename_i h key n
    split at hq
    · rename_i hc
      cases hq
      have hw := w19 (M := mach Tryz.prog FT T95) mach_ft (fun _ _ _ _ => by rw [mach_ext]; rfl) key n.toNat hc.1 hc.2.1 (by omega)
      rw [show ((n.toNat : Nat) : Int) = n from by omega] at hw
      refine ent_run1 seat T95_ok hw (FrL.same rfl) (k := 0) (.tup rfl fun i x y hx hy => ?_) rfl (ints_top _) (.inl rfl) (.inl rfl)
      match i, hx, hy with
      | 0, hx, hy => cases hx; cases hy; exact .sl (i := 0) rfl
      | 1, hx, hy => cases hx; cases hy; exact .same rfl
    · cases hq
  · cases hq
theorem s19_eq (key : Int) (n : Nat) (h : Heap) (h0 : 1 ≤ key) (h1 : key ≤ 2147483646) (h2 : n ≤ 256) : s19 [.int .i64 key, .int .i64 n] h = some ⟨.tup [.sl h.length 0 n 1 (some n), .int .i64 0], h ++ [some (.cells (ints (shuf (n - 1) key (upto n))) 3)], []⟩ := by
  show (if _ then _ else _) = _
  rw [if_pos (by omega)]
  rfl
end Go.Ab.Ch1

/-
  Own work: stadionlaw01.MarkShuffles answers true.
-/
namespace Go.Ab.Ch1
open Go.Proofs.Tryz
variable {M : Mach}

def bools (l : List Bool) : List AV := arr (fun x => [.bool x]) l

/-- The places that have been seen. -/
def seen (n : Nat) (l : List Int) : List Bool := (List.range n).map fun j : Nat => l.contains (j : Int)
theorem seen_length {n : Nat} {l : List Int} : (seen n l).length = n := by simp [seen]
theorem seen_get {n : Nat} {l : List Int} {z : Int} (h0 : 0 ≤ z) (h1 : z < n) : (seen n l)[z.toNat]! = l.contains z := by
  rw [List.getElem!_eq_getElem?_getD]
  have : z.toNat < n := by omega
  simp only [seen, List.getElem?_map, List.getElem?_range this, Option.map_some, Option.getD_some]
  congr 1
  omega
theorem seen_set {n : Nat} {l : List Int} {z : Int} (h0 : 0 ≤ z) (h1 : z < n) : (seen n l).set z.toNat true = seen n (l ++ [z]) := by
  apply List.ext_getElem?
  intro j
  rw [List.getElem?_set]
  by_cases hj : j < n
  · by_cases e : z.toNat = j
    · subst e
      have e2 : ((z.toNat : Nat) : Int) = z := by omega
      rw [if_pos rfl, if_pos (by rw [seen_length]; exact hj)]
      simp [seen, hj, e2]
    · have e2 : ¬ (j : Int) = z := by omega
      rw [if_neg e]
      simp [seen, hj, e2]
  · rw [if_neg (by omega), List.getElem?_eq_none (by rw [seen_length]; omega), List.getElem?_eq_none (by rw [seen_length]; omega)]

theorem body9_0 (n : Nat) (hn : n ≤ 40) (L : List Int) (hL : L.length = n) (hnd : L.Nodup) (hm : ∀ x ∈ L, 0 ≤ x ∧ x < n) (a0 a2 a4 a7 a8 a9 a10 a11 a12 a16 a17 a18 : AV) (df : List Nat) {Q : Ex → StW → Prop} :
    ∀ (r i : Nat), i + r = n → ∀ (a6 : AV) (lo : List (Nat × AV)) (wr : List Nat),
    (∀ a6 lo wr sn, Q (.exit 0) ⟨⟨[a0, .int .i64 n, a2, .sl 0 0 n 1 (some n), a4, .sl 1 0 n 1 (some n), a6, a7, a8, a9, a10, a11, a12, .sl 0 0 n 1 (some n), .int .i64 n, .int .i64 n, a16, a17, a18], lo, [some (.cells (ints L) 3), some (.cells (bools sn) 4)], df⟩, wr⟩) →
    W M (.loop b9_0) ⟨⟨[a0, .int .i64 n, a2, .sl 0 0 n 1 (some n), a4, .sl 1 0 n 1 (some n), a6, a7, a8, a9, a10, a11, a12, .sl 0 0 n 1 (some n), .int .i64 n, .int .i64 i, a16, a17, a18], lo, [some (.cells (ints L) 3), some (.cells (bools (seen n (L.take i))) 4)], df⟩, wr⟩ Q
  | 0, i, hi, a6, lo, wr, hQ => by
    obtain rfl : i = n := by omega
    refine W.loop ?_
    unfold b9_0
    repeat' first
      | apply W.seq
      | apply SQn
      | apply W.region
      | apply WO.nil
      | apply W.block
      | apply W.ret
      | apply W.exit
      | apply W.skip
      | apply SQr
      | apply SQe
      | apply BQn
      | apply BQr
      | apply BQe
      | (apply BQo; exact rfl)
      | apply LQe
      | apply LQr
      | (apply W.drawro; exact rfl)
      | apply W.draw
      | apply WD.nil
      | (apply WD.pure1; exact rfl)
      | (apply WD.load1; exact rfl; exact rfl; exact rfl)
      | (apply WD.store1; exact rfl; exact rfl; exact rfl)
      | (apply W.condT; exact rfl)
      | (apply W.condF; exact rfl)
      | (apply W.cond; exact rfl; all_goals intro _)
      | (apply WO.gT; exact rfl)
      | (apply WO.gF; exact rfl)
      | (apply WO.sT; exact rfl)
      | (apply WO.sF; exact rfl)
      | (apply WO.lss; exact rfl; exact rfl; all_goals first | (intro _; exfalso; omega) | intro _)
      | (apply WO.leq; exact rfl; exact rfl; all_goals first | (intro _; exfalso; omega) | intro _)
      | (apply WO.gtr; exact rfl; exact rfl; all_goals first | (intro _; exfalso; omega) | intro _)
      | (apply WO.geq; exact rfl; exact rfl; all_goals first | (intro _; exfalso; omega) | intro _)
      | (apply WO.eql; exact rfl; exact rfl; all_goals first | (intro _; exfalso; omega) | intro _)
      | (apply WO.neq; exact rfl; exact rfl; all_goals first | (intro _; exfalso; omega) | intro _)
      | (apply WO.pkT; exact rfl; exact rfl)
      | (apply WO.pkF; exact rfl; exact rfl)
      | (apply WO.add; exact rfl; exact rfl; omega)
      | (apply WO.sub; exact rfl; exact rfl; omega)
      | (apply WO.mul; exact rfl; exact rfl; omega)
      | (apply WO.remp; exact rfl; exact rfl; omega; intro _ _)
      | (apply WO.quop; exact rfl; exact rfl; omega; omega; intro _ _)
      | (apply WO.rem; exact rfl; exact rfl; omega)
      | (apply WO.quo; exact rfl; exact rfl; omega; omega)
      | (apply WO.iav; exact rfl; exact rfl; omega)
      | (apply WO.ias; exact rfl; exact rfl; omega)
      | (apply WO.idx; exact rfl; exact rfl; omega)
      | (apply WO.mki; exact rfl; exact rfl; omega)
      | (apply WO.mkb; exact rfl; exact rfl; omega)
      | (apply WO.lda; exact rfl; exact fun _ => rfl; (first | omega | (simp only [List.length_set, List.length_append, List.length_cons, List.length_nil, List.length_replicate]; omega)); decide; exact rfl; case ia => infer_instance)
      | (apply WO.ldf; exact rfl; exact fun _ => rfl; (first | omega | (simp only [List.length_set, List.length_append, List.length_cons, List.length_nil, List.length_replicate]; omega)); decide; exact rfl; case ia => infer_instance)
      | (apply WO.lsa; exact rfl; (first | exact rfl | assumption | exact at_new | (apply at_old; assumption)); exact fun _ => rfl; (first | omega | (simp only [List.length_set, List.length_append, List.length_cons, List.length_nil, List.length_replicate]; omega)); decide; exact rfl; case ia => infer_instance)
      | (apply WO.lsf; exact rfl; (first | exact rfl | assumption | exact at_new | (apply at_old; assumption)); exact fun _ => rfl; (first | omega | (simp only [List.length_set, List.length_append, List.length_cons, List.length_nil, List.length_replicate]; omega)); decide; exact rfl; case ia => infer_instance)
      | (apply WO.sta; exact rfl; exact rfl; (first | exact rfl | assumption | exact at_new | (apply at_old; assumption)); exact fun _ => rfl; (first | omega | (simp only [List.length_set, List.length_append, List.length_cons, List.length_nil, List.length_replicate]; omega)); exact ⟨rfl, by decide, rfl⟩; exact rfl; case ia => infer_instance)
      | (apply WO.stf; exact rfl; exact rfl; (first | exact rfl | assumption | exact at_new | (apply at_old; assumption)); exact fun _ => rfl; (first | omega | (simp only [List.length_set, List.length_append, List.length_cons, List.length_nil, List.length_replicate]; omega)); exact ⟨rfl, by decide, rfl⟩; exact rfl; case ia => infer_instance)
      | (apply WO.pl; exact rfl; exact rfl)
      | (apply WO.pp; exact rfl; exact rfl)
    exact hQ _ _ _ _
  | r + 1, i, hi, a6, lo, wr, hQ => by
    have hil : i < L.length := by omega
    have hz := hm L[(i : Int).toNat]! (by rw [Int.toNat_natCast, getElem!_pos L i hil]; exact List.getElem_mem hil)
    have hsl := seen_length (n := n) (l := L.take i)
    have hnew : (seen n (L.take i))[(L[(i : Int).toNat]!).toNat]! = false := by
      rw [seen_get hz.1 hz.2, Int.toNat_natCast, getElem!_pos L i hil]
      simp only [List.contains_eq_mem, decide_eq_false_iff_not]
      intro hmem
      obtain ⟨j, hj, e⟩ := List.getElem_of_mem hmem
      simp at hj
      rw [List.getElem_take] at e
      have := (List.getElem_inj hnd).1 e
      omega
    refine W.loop ?_
    unfold b9_0
    repeat' first
      | apply W.seq
      | apply SQn
      | apply W.region
      | apply WO.nil
      | apply W.block
      | apply W.ret
      | apply W.exit
      | apply W.skip
      | apply SQr
      | apply SQe
      | apply BQn
      | apply BQr
      | apply BQe
      | (apply BQo; exact rfl)
      | apply LQe
      | apply LQr
      | (apply W.drawro; exact rfl)
      | apply W.draw
      | apply WD.nil
      | (apply WD.pure1; exact rfl)
      | (apply WD.load1; exact rfl; exact rfl; exact rfl)
      | (apply WD.store1; exact rfl; exact rfl; exact rfl)
      | (apply W.condT; exact rfl)
      | (apply W.condF; exact rfl)
      | (apply W.cond; exact rfl; all_goals intro _)
      | (apply WO.gT; exact rfl)
      | (apply WO.gF; exact rfl)
      | (apply WO.sT; exact rfl)
      | (apply WO.sF; exact rfl)
      | (apply WO.lss; exact rfl; exact rfl; all_goals first | (intro _; exfalso; omega) | intro _)
      | (apply WO.leq; exact rfl; exact rfl; all_goals first | (intro _; exfalso; omega) | intro _)
      | (apply WO.gtr; exact rfl; exact rfl; all_goals first | (intro _; exfalso; omega) | intro _)
      | (apply WO.geq; exact rfl; exact rfl; all_goals first | (intro _; exfalso; omega) | intro _)
      | (apply WO.eql; exact rfl; exact rfl; all_goals first | (intro _; exfalso; omega) | intro _)
      | (apply WO.neq; exact rfl; exact rfl; all_goals first | (intro _; exfalso; omega) | intro _)
      | (apply WO.pkT; exact rfl; exact rfl)
      | (apply WO.pkF; exact rfl; exact rfl)
      | (apply WO.add; exact rfl; exact rfl; omega)
      | (apply WO.sub; exact rfl; exact rfl; omega)
      | (apply WO.mul; exact rfl; exact rfl; omega)
      | (apply WO.remp; exact rfl; exact rfl; omega; intro _ _)
      | (apply WO.quop; exact rfl; exact rfl; omega; omega; intro _ _)
      | (apply WO.rem; exact rfl; exact rfl; omega)
      | (apply WO.quo; exact rfl; exact rfl; omega; omega)
      | (apply WO.iav; exact rfl; exact rfl; omega)
      | (apply WO.ias; exact rfl; exact rfl; omega)
      | (apply WO.idx; exact rfl; exact rfl; omega)
      | (apply WO.mki; exact rfl; exact rfl; omega)
      | (apply WO.mkb; exact rfl; exact rfl; omega)
      | (apply WO.lda; exact rfl; exact fun _ => rfl; (first | omega | (simp only [List.length_set, List.length_append, List.length_cons, List.length_nil, List.length_replicate]; omega)); decide; exact rfl; case ia => infer_instance)
      | (apply WO.ldf; exact rfl; exact fun _ => rfl; (first | omega | (simp only [List.length_set, List.length_append, List.length_cons, List.length_nil, List.length_replicate]; omega)); decide; exact rfl; case ia => infer_instance)
      | (apply WO.lsa; exact rfl; (first | exact rfl | assumption | exact at_new | (apply at_old; assumption)); exact fun _ => rfl; (first | omega | (simp only [List.length_set, List.length_append, List.length_cons, List.length_nil, List.length_replicate]; omega)); decide; exact rfl; case ia => infer_instance)
      | (apply WO.lsf; exact rfl; (first | exact rfl | assumption | exact at_new | (apply at_old; assumption)); exact fun _ => rfl; (first | omega | (simp only [List.length_set, List.length_append, List.length_cons, List.length_nil, List.length_replicate]; omega)); decide; exact rfl; case ia => infer_instance)
      | (apply WO.sta; exact rfl; exact rfl; (first | exact rfl | assumption | exact at_new | (apply at_old; assumption)); exact fun _ => rfl; (first | omega | (simp only [List.length_set, List.length_append, List.length_cons, List.length_nil, List.length_replicate]; omega)); exact ⟨rfl, by decide, rfl⟩; exact rfl; case ia => infer_instance)
      | (apply WO.stf; exact rfl; exact rfl; (first | exact rfl | assumption | exact at_new | (apply at_old; assumption)); exact fun _ => rfl; (first | omega | (simp only [List.length_set, List.length_append, List.length_cons, List.length_nil, List.length_replicate]; omega)); exact ⟨rfl, by decide, rfl⟩; exact rfl; case ia => infer_instance)
      | (apply WO.pl; exact rfl; exact rfl)
      | (apply WO.pp; exact rfl; exact rfl)
    · rename_i h
      exact absurd (hnew.symm.trans h) (by simp)
    · refine LQn ?_
      have e : (seen n (L.take i)).set (L[(i : Int).toNat]!).toNat true = seen n (L.take (i + 1)) := by
        rw [seen_set hz.1 hz.2, List.take_add_one, List.getElem?_eq_getElem hil, Int.toNat_natCast, getElem!_pos L i hil]; rfl
      rw [e]
      exact body9_0 n hn L hL hnd hm a0 a2 a4 a7 a8 a9 a10 a11 a12 a16 a17 a18 df r (i + 1) (by omega) _ _ _ hQ

theorem body9_1 (n : Nat) (hn : n ≤ 40) (L R : List Int) (x : Int) (hx : 0 ≤ x) (hn2 : 2 ≤ n) (hL : L.length = n) (hR : R.length = n - 1) (hm : ∀ i, i < n - 1 → 0 ≤ R[i]! ∧ R[i]! < n - 1 ∧ L[i]! = if R[i]! = x % n then (n : Int) - 1 else R[i]!)
    (a0 a2 a4 a5 a6 a9 a13 a14 a15 : AV) (b1 : Option Blk) (df : List Nat) {Q : Ex → StW → Prop} :
    ∀ (r i : Nat), i + r = n - 1 → ∀ (a10 a11 a12 : AV) (lo : List (Nat × AV)) (wr : List Nat),
    (∀ a10 a11 a12 lo wr, Q (.exit 2) ⟨⟨[a0, .int .i64 n, a2, .sl 0 0 n 1 (some n), a4, a5, a6, .int .i64 x, .sl 2 0 (n - 1) 1 (some (n - 1)), a9, a10, a11, a12, a13, a14, a15, .sl 2 0 (n - 1) 1 (some (n - 1)), .int .i64 (n - 1 : Nat), .int .i64 (n - 1 : Nat)], lo, [some (.cells (ints L) 3), b1, some (.cells (ints R) 3)], df⟩, wr⟩) →
    W M (.loop b9_1) ⟨⟨[a0, .int .i64 n, a2, .sl 0 0 n 1 (some n), a4, a5, a6, .int .i64 x, .sl 2 0 (n - 1) 1 (some (n - 1)), a9, a10, a11, a12, a13, a14, a15, .sl 2 0 (n - 1) 1 (some (n - 1)), .int .i64 (n - 1 : Nat), .int .i64 i], lo, [some (.cells (ints L) 3), b1, some (.cells (ints R) 3)], df⟩, wr⟩ Q
  | 0, i, hi, a10, a11, a12, lo, wr, hQ => by
    obtain rfl : i = n - 1 := by omega
    refine W.loop ?_
    unfold b9_1
    repeat' first
      | apply W.seq
      | apply SQn
      | apply W.region
      | apply WO.nil
      | apply W.block
      | apply W.ret
      | apply W.exit
      | apply W.skip
      | apply SQr
      | apply SQe
      | apply BQn
      | apply BQr
      | apply BQe
      | (apply BQo; exact rfl)
      | apply LQe
      | apply LQr
      | (apply W.drawro; exact rfl)
      | apply W.draw
      | apply WD.nil
      | (apply WD.pure1; exact rfl)
      | (apply WD.load1; exact rfl; exact rfl; exact rfl)
      | (apply WD.store1; exact rfl; exact rfl; exact rfl)
      | (apply W.condT; exact rfl)
      | (apply W.condF; exact rfl)
      | (apply W.cond; exact rfl; all_goals intro _)
      | (apply WO.gT; exact rfl)
      | (apply WO.gF; exact rfl)
      | (apply WO.sT; exact rfl)
      | (apply WO.sF; exact rfl)
      | (apply WO.lss; exact rfl; exact rfl; all_goals first | (intro _; exfalso; omega) | intro _)
      | (apply WO.leq; exact rfl; exact rfl; all_goals first | (intro _; exfalso; omega) | intro _)
      | (apply WO.gtr; exact rfl; exact rfl; all_goals first | (intro _; exfalso; omega) | intro _)
      | (apply WO.geq; exact rfl; exact rfl; all_goals first | (intro _; exfalso; omega) | intro _)
      | (apply WO.eql; exact rfl; exact rfl; all_goals first | (intro _; exfalso; omega) | intro _)
      | (apply WO.neq; exact rfl; exact rfl; all_goals first | (intro _; exfalso; omega) | intro _)
      | (apply WO.pkT; exact rfl; exact rfl)
      | (apply WO.pkF; exact rfl; exact rfl)
      | (apply WO.add; exact rfl; exact rfl; omega)
      | (apply WO.sub; exact rfl; exact rfl; omega)
      | (apply WO.mul; exact rfl; exact rfl; omega)
      | (apply WO.remp; exact rfl; exact rfl; omega; intro _ _)
      | (apply WO.quop; exact rfl; exact rfl; omega; omega; intro _ _)
      | (apply WO.rem; exact rfl; exact rfl; omega)
      | (apply WO.quo; exact rfl; exact rfl; omega; omega)
      | (apply WO.iav; exact rfl; exact rfl; omega)
      | (apply WO.ias; exact rfl; exact rfl; omega)
      | (apply WO.idx; exact rfl; exact rfl; omega)
      | (apply WO.mki; exact rfl; exact rfl; omega)
      | (apply WO.mkb; exact rfl; exact rfl; omega)
      | (apply WO.lda; exact rfl; exact fun _ => rfl; (first | omega | (simp only [List.length_set, List.length_append, List.length_cons, List.length_nil, List.length_replicate]; omega)); decide; exact rfl; case ia => infer_instance)
      | (apply WO.ldf; exact rfl; exact fun _ => rfl; (first | omega | (simp only [List.length_set, List.length_append, List.length_cons, List.length_nil, List.length_replicate]; omega)); decide; exact rfl; case ia => infer_instance)
      | (apply WO.lsa; exact rfl; (first | exact rfl | assumption | exact at_new | (apply at_old; assumption)); exact fun _ => rfl; (first | omega | (simp only [List.length_set, List.length_append, List.length_cons, List.length_nil, List.length_replicate]; omega)); decide; exact rfl; case ia => infer_instance)
      | (apply WO.lsf; exact rfl; (first | exact rfl | assumption | exact at_new | (apply at_old; assumption)); exact fun _ => rfl; (first | omega | (simp only [List.length_set, List.length_append, List.length_cons, List.length_nil, List.length_replicate]; omega)); decide; exact rfl; case ia => infer_instance)
      | (apply WO.sta; exact rfl; exact rfl; (first | exact rfl | assumption | exact at_new | (apply at_old; assumption)); exact fun _ => rfl; (first | omega | (simp only [List.length_set, List.length_append, List.length_cons, List.length_nil, List.length_replicate]; omega)); exact ⟨rfl, by decide, rfl⟩; exact rfl; case ia => infer_instance)
      | (apply WO.stf; exact rfl; exact rfl; (first | exact rfl | assumption | exact at_new | (apply at_old; assumption)); exact fun _ => rfl; (first | omega | (simp only [List.length_set, List.length_append, List.length_cons, List.length_nil, List.length_replicate]; omega)); exact ⟨rfl, by decide, rfl⟩; exact rfl; case ia => infer_instance)
      | (apply WO.pl; exact rfl; exact rfl)
      | (apply WO.pp; exact rfl; exact rfl)
    exact hQ _ _ _ _ _
  | r + 1, i, hi, a10, a11, a12, lo, wr, hQ => by
    obtain ⟨m1, m2, m3⟩ := hm (i : Int).toNat (by omega)
    refine W.loop ?_
    unfold b9_1
    by_cases hk : R[(i : Int).toNat]! = x % n
    · rw [if_pos hk] at m3
      repeat' first
        | apply W.seq
        | apply SQn
        | apply W.region
        | apply WO.nil
        | apply W.block
        | apply W.ret
        | apply W.exit
        | apply W.skip
        | apply SQr
        | apply SQe
        | apply BQn
        | apply BQr
        | apply BQe
        | (apply BQo; exact rfl)
        | apply LQe
        | apply LQr
        | (apply W.drawro; exact rfl)
        | apply W.draw
        | apply WD.nil
        | (apply WD.pure1; exact rfl)
        | (apply WD.load1; exact rfl; exact rfl; exact rfl)
        | (apply WD.store1; exact rfl; exact rfl; exact rfl)
        | (apply W.condT; exact rfl)
        | (apply W.condF; exact rfl)
        | (apply W.cond; exact rfl; all_goals intro _)
        | (apply WO.gT; exact rfl)
        | (apply WO.gF; exact rfl)
        | (apply WO.sT; exact rfl)
        | (apply WO.sF; exact rfl)
        | (apply WO.lss; exact rfl; exact rfl; all_goals first | (intro _; exfalso; omega) | intro _)
        | (apply WO.leq; exact rfl; exact rfl; all_goals first | (intro _; exfalso; omega) | intro _)
        | (apply WO.gtr; exact rfl; exact rfl; all_goals first | (intro _; exfalso; omega) | intro _)
        | (apply WO.geq; exact rfl; exact rfl; all_goals first | (intro _; exfalso; omega) | intro _)
        | (apply WO.eql; exact rfl; exact rfl; all_goals first | (intro _; exfalso; omega) | intro _)
        | (apply WO.neq; exact rfl; exact rfl; all_goals first | (intro _; exfalso; omega) | intro _)
        | (apply WO.pkT; exact rfl; exact rfl)
        | (apply WO.pkF; exact rfl; exact rfl)
        | (apply WO.add; exact rfl; exact rfl; omega)
        | (apply WO.sub; exact rfl; exact rfl; omega)
        | (apply WO.mul; exact rfl; exact rfl; omega)
        | (apply WO.remp; exact rfl; exact rfl; omega; intro _ _)
        | (apply WO.quop; exact rfl; exact rfl; omega; omega; intro _ _)
        | (apply WO.rem; exact rfl; exact rfl; omega)
        | (apply WO.quo; exact rfl; exact rfl; omega; omega)
        | (apply WO.iav; exact rfl; exact rfl; omega)
        | (apply WO.ias; exact rfl; exact rfl; omega)
        | (apply WO.idx; exact rfl; exact rfl; omega)
        | (apply WO.mki; exact rfl; exact rfl; omega)
        | (apply WO.mkb; exact rfl; exact rfl; omega)
        | (apply WO.lda; exact rfl; exact fun _ => rfl; (first | omega | (simp only [List.length_set, List.length_append, List.length_cons, List.length_nil, List.length_replicate]; omega)); decide; exact rfl; case ia => infer_instance)
        | (apply WO.ldf; exact rfl; exact fun _ => rfl; (first | omega | (simp only [List.length_set, List.length_append, List.length_cons, List.length_nil, List.length_replicate]; omega)); decide; exact rfl; case ia => infer_instance)
        | (apply WO.lsa; exact rfl; (first | exact rfl | assumption | exact at_new | (apply at_old; assumption)); exact fun _ => rfl; (first | omega | (simp only [List.length_set, List.length_append, List.length_cons, List.length_nil, List.length_replicate]; omega)); decide; exact rfl; case ia => infer_instance)
        | (apply WO.lsf; exact rfl; (first | exact rfl | assumption | exact at_new | (apply at_old; assumption)); exact fun _ => rfl; (first | omega | (simp only [List.length_set, List.length_append, List.length_cons, List.length_nil, List.length_replicate]; omega)); decide; exact rfl; case ia => infer_instance)
        | (apply WO.sta; exact rfl; exact rfl; (first | exact rfl | assumption | exact at_new | (apply at_old; assumption)); exact fun _ => rfl; (first | omega | (simp only [List.length_set, List.length_append, List.length_cons, List.length_nil, List.length_replicate]; omega)); exact ⟨rfl, by decide, rfl⟩; exact rfl; case ia => infer_instance)
        | (apply WO.stf; exact rfl; exact rfl; (first | exact rfl | assumption | exact at_new | (apply at_old; assumption)); exact fun _ => rfl; (first | omega | (simp only [List.length_set, List.length_append, List.length_cons, List.length_nil, List.length_replicate]; omega)); exact ⟨rfl, by decide, rfl⟩; exact rfl; case ia => infer_instance)
        | (apply WO.pl; exact rfl; exact rfl)
        | (apply WO.pp; exact rfl; exact rfl)
      exact LQn (body9_1 n hn L R x hx hn2 hL hR hm a0 a2 a4 a5 a6 a9 a13 a14 a15 b1 df r (i + 1) (by omega) _ _ _ _ _ hQ)
    · rw [if_neg hk] at m3
      repeat' first
        | apply W.seq
        | apply SQn
        | apply W.region
        | apply WO.nil
        | apply W.block
        | apply W.ret
        | apply W.exit
        | apply W.skip
        | apply SQr
        | apply SQe
        | apply BQn
        | apply BQr
        | apply BQe
        | (apply BQo; exact rfl)
        | apply LQe
        | apply LQr
        | (apply W.drawro; exact rfl)
        | apply W.draw
        | apply WD.nil
        | (apply WD.pure1; exact rfl)
        | (apply WD.load1; exact rfl; exact rfl; exact rfl)
        | (apply WD.store1; exact rfl; exact rfl; exact rfl)
        | (apply W.condT; exact rfl)
        | (apply W.condF; exact rfl)
        | (apply W.cond; exact rfl; all_goals intro _)
        | (apply WO.gT; exact rfl)
        | (apply WO.gF; exact rfl)
        | (apply WO.sT; exact rfl)
        | (apply WO.sF; exact rfl)
        | (apply WO.lss; exact rfl; exact rfl; all_goals first | (intro _; exfalso; omega) | intro _)
        | (apply WO.leq; exact rfl; exact rfl; all_goals first | (intro _; exfalso; omega) | intro _)
        | (apply WO.gtr; exact rfl; exact rfl; all_goals first | (intro _; exfalso; omega) | intro _)
        | (apply WO.geq; exact rfl; exact rfl; all_goals first | (intro _; exfalso; omega) | intro _)
        | (apply WO.eql; exact rfl; exact rfl; all_goals first | (intro _; exfalso; omega) | intro _)
        | (apply WO.neq; exact rfl; exact rfl; all_goals first | (intro _; exfalso; omega) | intro _)
        | (apply WO.pkT; exact rfl; exact rfl)
        | (apply WO.pkF; exact rfl; exact rfl)
        | (apply WO.add; exact rfl; exact rfl; omega)
        | (apply WO.sub; exact rfl; exact rfl; omega)
        | (apply WO.mul; exact rfl; exact rfl; omega)
        | (apply WO.remp; exact rfl; exact rfl; omega; intro _ _)
        | (apply WO.quop; exact rfl; exact rfl; omega; omega; intro _ _)
        | (apply WO.rem; exact rfl; exact rfl; omega)
        | (apply WO.quo; exact rfl; exact rfl; omega; omega)
        | (apply WO.iav; exact rfl; exact rfl; omega)
        | (apply WO.ias; exact rfl; exact rfl; omega)
        | (apply WO.idx; exact rfl; exact rfl; omega)
        | (apply WO.mki; exact rfl; exact rfl; omega)
        | (apply WO.mkb; exact rfl; exact rfl; omega)
        | (apply WO.lda; exact rfl; exact fun _ => rfl; (first | omega | (simp only [List.length_set, List.length_append, List.length_cons, List.length_nil, List.length_replicate]; omega)); decide; exact rfl; case ia => infer_instance)
        | (apply WO.ldf; exact rfl; exact fun _ => rfl; (first | omega | (simp only [List.length_set, List.length_append, List.length_cons, List.length_nil, List.length_replicate]; omega)); decide; exact rfl; case ia => infer_instance)
        | (apply WO.lsa; exact rfl; (first | exact rfl | assumption | exact at_new | (apply at_old; assumption)); exact fun _ => rfl; (first | omega | (simp only [List.length_set, List.length_append, List.length_cons, List.length_nil, List.length_replicate]; omega)); decide; exact rfl; case ia => infer_instance)
        | (apply WO.lsf; exact rfl; (first | exact rfl | assumption | exact at_new | (apply at_old; assumption)); exact fun _ => rfl; (first | omega | (simp only [List.length_set, List.length_append, List.length_cons, List.length_nil, List.length_replicate]; omega)); decide; exact rfl; case ia => infer_instance)
        | (apply WO.sta; exact rfl; exact rfl; (first | exact rfl | assumption | exact at_new | (apply at_old; assumption)); exact fun _ => rfl; (first | omega | (simp only [List.length_set, List.length_append, List.length_cons, List.length_nil, List.length_replicate]; omega)); exact ⟨rfl, by decide, rfl⟩; exact rfl; case ia => infer_instance)
        | (apply WO.stf; exact rfl; exact rfl; (first | exact rfl | assumption | exact at_new | (apply at_old; assumption)); exact fun _ => rfl; (first | omega | (simp only [List.length_set, List.length_append, List.length_cons, List.length_nil, List.length_replicate]; omega)); exact ⟨rfl, by decide, rfl⟩; exact rfl; case ia => infer_instance)
        | (apply WO.pl; exact rfl; exact rfl)
        | (apply WO.pp; exact rfl; exact rfl)
      exact LQn (body9_1 n hn L R x hx hn2 hL hR hm a0 a2 a4 a5 a6 a9 a13 a14 a15 b1 df r (i + 1) (by omega) _ _ _ _ _ hQ)

set_option maxHeartbeats 4000000 in
theorem w9 (hft : M.FT = FT) (h18 : ∀ h, M.ext 18 [] h = some ⟨.bool true, h, []⟩) (h20 : ∀ key n h, M.ext 20 [.int .i64 key, .int .i64 n] h = some ⟨.int .i64 (if key < 1 ∨ 2147483646 < key ∨ n < 0 ∨ 256 < n then 3 else 0), h, []⟩)
    (h19 : ∀ (key : Int) (n : Nat) h, 1 ≤ key → key ≤ 2147483646 → n ≤ 256 → M.ext 19 [.int .i64 key, .int .i64 n] h = some ⟨.tup [.sl h.length 0 n 1 (some n), .int .i64 0], h ++ [some (.cells (ints (shuf (n - 1) key (upto n))) 3)], []⟩) (key n : Int) :
    Run M 9 [.int .i64 key, .int .i64 n] [] ⟨.bool true, [], []⟩ := by
  refine run_of_W (by rw [hft]; exact ft9) (by simp) ?_
  unfold b9
  simp only [List.map_cons, List.map_nil, List.getElem?_cons_zero, List.getElem?_cons_succ, List.getElem?_nil, Option.getD_some, Option.getD_none]
  by_cases hc : key < 1 ∨ 2147483646 < key ∨ n < 0 ∨ 256 < n
  · have h20' : ∀ h, M.ext 20 [.int .i64 key, .int .i64 n] h = some ⟨.int .i64 3, h, []⟩ := fun h => by rw [h20, if_pos hc]
    repeat' first
      | apply W.seq
      | apply SQn
      | apply W.region
      | apply WO.nil
      | apply W.block
      | apply W.ret
      | apply W.exit
      | apply W.skip
      | apply SQr
      | apply SQe
      | apply BQn
      | apply BQr
      | apply BQe
      | (apply BQo; exact rfl)
      | apply LQe
      | apply LQr
      | (apply W.drawro; exact rfl)
      | apply W.draw
      | apply WD.nil
      | (apply WD.pure1; exact rfl)
      | (apply WD.load1; exact rfl; exact rfl; exact rfl)
      | (apply WD.store1; exact rfl; exact rfl; exact rfl)
      | (apply W.condT; exact rfl)
      | (apply W.condF; exact rfl)
      | (apply W.cond; exact rfl; all_goals intro _)
      | (apply WO.gT; exact rfl)
      | (apply WO.gF; exact rfl)
      | (apply WO.sT; exact rfl)
      | (apply WO.sF; exact rfl)
      | (apply WO.lss; exact rfl; exact rfl; all_goals first | (intro _; exfalso; omega) | intro _)
      | (apply WO.leq; exact rfl; exact rfl; all_goals first | (intro _; exfalso; omega) | intro _)
      | (apply WO.gtr; exact rfl; exact rfl; all_goals first | (intro _; exfalso; omega) | intro _)
      | (apply WO.geq; exact rfl; exact rfl; all_goals first | (intro _; exfalso; omega) | intro _)
      | (apply WO.eql; exact rfl; exact rfl; all_goals first | (intro _; exfalso; omega) | intro _)
      | (apply WO.neq; exact rfl; exact rfl; all_goals first | (intro _; exfalso; omega) | intro _)
      | (apply WO.pkT; exact rfl; exact rfl)
      | (apply WO.pkF; exact rfl; exact rfl)
      | (apply WO.add; exact rfl; exact rfl; omega)
      | (apply WO.sub; exact rfl; exact rfl; omega)
      | (apply WO.mul; exact rfl; exact rfl; omega)
      | (apply WO.remp; exact rfl; exact rfl; omega; intro _ _)
      | (apply WO.quop; exact rfl; exact rfl; omega; omega; intro _ _)
      | (apply WO.rem; exact rfl; exact rfl; omega)
      | (apply WO.quo; exact rfl; exact rfl; omega; omega)
      | (apply WO.cll; exact rfl; exact rfl; first | exact h18 _ | exact h20' _)
      | (apply WO.iav; exact rfl; exact rfl; omega)
      | (apply WO.ias; exact rfl; exact rfl; omega)
      | (apply WO.idx; exact rfl; exact rfl; omega)
      | (apply WO.mki; exact rfl; exact rfl; omega)
      | (apply WO.mkb; exact rfl; exact rfl; omega)
      | (apply WO.lda; exact rfl; exact fun _ => rfl; (first | omega | (simp only [List.length_set, List.length_append, List.length_cons, List.length_nil, List.length_replicate]; omega)); decide; exact rfl; case ia => infer_instance)
      | (apply WO.ldf; exact rfl; exact fun _ => rfl; (first | omega | (simp only [List.length_set, List.length_append, List.length_cons, List.length_nil, List.length_replicate]; omega)); decide; exact rfl; case ia => infer_instance)
      | (apply WO.lsa; exact rfl; (first | exact rfl | assumption | exact at_new | (apply at_old; assumption)); exact fun _ => rfl; (first | omega | (simp only [List.length_set, List.length_append, List.length_cons, List.length_nil, List.length_replicate]; omega)); decide; exact rfl; case ia => infer_instance)
      | (apply WO.lsf; exact rfl; (first | exact rfl | assumption | exact at_new | (apply at_old; assumption)); exact fun _ => rfl; (first | omega | (simp only [List.length_set, List.length_append, List.length_cons, List.length_nil, List.length_replicate]; omega)); decide; exact rfl; case ia => infer_instance)
      | (apply WO.sta; exact rfl; exact rfl; (first | exact rfl | assumption | exact at_new | (apply at_old; assumption)); exact fun _ => rfl; (first | omega | (simp only [List.length_set, List.length_append, List.length_cons, List.length_nil, List.length_replicate]; omega)); exact ⟨rfl, by decide, rfl⟩; exact rfl; case ia => infer_instance)
      | (apply WO.stf; exact rfl; exact rfl; (first | exact rfl | assumption | exact at_new | (apply at_old; assumption)); exact fun _ => rfl; (first | omega | (simp only [List.length_set, List.length_append, List.length_cons, List.length_nil, List.length_replicate]; omega)); exact ⟨rfl, by decide, rfl⟩; exact rfl; case ia => infer_instance)
      | (apply WO.pl; exact rfl; exact rfl)
      | (apply WO.pp; exact rfl; exact rfl)
    all_goals exact ⟨.inr rfl, rfl, _, rfl, rfl, by simp [AV.top]⟩
  · have h20' : ∀ h, M.ext 20 [.int .i64 key, .int .i64 n] h = some ⟨.int .i64 0, h, []⟩ := fun h => by rw [h20, if_neg hc]
    obtain ⟨n, rfl⟩ := Int.eq_ofNat_of_zero_le (show 0 ≤ n by omega)
    have h19' : ∀ h, M.ext 19 [.int .i64 key, .int .i64 n] h = some ⟨.tup [.sl h.length 0 n 1 (some n), .int .i64 0], h ++ [some (.cells (ints (shuf (n - 1) key (upto n))) 3)], []⟩ := fun h => h19 key n h (by omega) (by omega) (by omega)
    have hnd := drawn_nodup n key
    have hmem := fun x => drawn_mem n key (x := x)
    have hlen : (shuf (n - 1) key (upto n)).length = n := by rw [shuf_length, upto_length]
    have hall : 2 ≤ n → (shuf (n - 1) key (upto n))[((n : Int) - 1).toNat]! = 69621 * key % 2147483647 % (n : Int) ∧ ∀ i, i < n - 1 → (shuf (n - 1) key (upto n))[i]! = if (shuf (n - 1 - 1) (69621 * key % 2147483647) (upto (n - 1)))[i]! = 69621 * key % 2147483647 % (n : Int) then (n : Int) - 1 else (shuf (n - 1 - 1) (69621 * key % 2147483647) (upto (n - 1)))[i]! := by
      intro h2
      obtain ⟨m, rfl⟩ : ∃ m, n = m + 2 := ⟨n - 2, by omega⟩
      have e : slot (m + 1) key = 69621 * key % 2147483647 % ((m + 2 : Nat) : Int) := rfl
      have e2 : ((m + 2 : Nat) : Int) - 1 = ((m + 1 : Nat) : Int) := by omega
      have e3 : m + 2 - 1 = m + 1 := rfl
      have hl : ((shuf m (lcg key) (upto (m + 1))).map (fun j : Int => if j = slot (m + 1) key then ((m + 1 : Nat) : Int) else j)).length = m + 1 := by rw [List.length_map, shuf_length, upto_length]
      rw [e3, drawn, e2, ← e]
      refine ⟨?_, fun i hi => ?_⟩
      · rw [Int.toNat_natCast, List.getElem!_eq_getElem?_getD, List.getElem?_append_right (by omega), hl]; simp
      · rw [getD_append (by omega), getD_map (by rw [shuf_length, upto_length]; exact hi)]
        rfl
    have hm2 : 2 ≤ n → ∀ i, i < n - 1 → 0 ≤ (shuf (n - 1 - 1) (69621 * key % 2147483647) (upto (n - 1)))[i]! ∧ (shuf (n - 1 - 1) (69621 * key % 2147483647) (upto (n - 1)))[i]! < n - 1 := by
      intro h2 i hi
      have hl : i < (shuf (n - 1 - 1) (69621 * key % 2147483647) (upto (n - 1))).length := by rw [shuf_length, upto_length]; exact hi
      have := drawn_mem (n - 1) (69621 * key % 2147483647) (x := (shuf (n - 1 - 1) (69621 * key % 2147483647) (upto (n - 1)))[i]!) (by rw [getElem!_pos _ i hl]; exact List.getElem_mem hl)
      omega
    have hlenR : (shuf (n - 1 - 1) (69621 * key % 2147483647) (upto (n - 1))).length = n - 1 := by rw [shuf_length, upto_length]
    have h19'' : 2 ≤ n → ∀ h, M.ext 19 [.int .i64 (69621 * key % 2147483647), .int .i64 ((n : Int) - 1)] h = some ⟨.tup [.sl h.length 0 (n - 1) 1 (some (n - 1)), .int .i64 0], h ++ [some (.cells (ints (shuf (n - 1 - 1) (69621 * key % 2147483647) (upto (n - 1)))) 3)], []⟩ := fun h2 h => by
      have := lcg_pos (key := key) (by omega) (by omega)
      have h1 := lcg_range (key := key)
      unfold lcg at this h1
      rw [show (n : Int) - 1 = ((n - 1 : Nat) : Int) from by omega]
      exact h19 _ (n - 1) h this (by omega) (by omega)
    generalize shuf (n - 1) key (upto n) = L at *
    generalize shuf (n - 1 - 1) (69621 * key % 2147483647) (upto (n - 1)) = R at *
    repeat' first
      | apply W.seq
      | apply SQn
      | apply W.region
      | apply WO.nil
      | apply W.block
      | apply W.ret
      | apply W.exit
      | apply W.skip
      | apply SQr
      | apply SQe
      | apply BQn
      | apply BQr
      | apply BQe
      | (apply BQo; exact rfl)
      | apply LQe
      | apply LQr
      | (apply W.drawro; exact rfl)
      | apply W.draw
      | apply WD.nil
      | (apply WD.pure1; exact rfl)
      | (apply WD.load1; exact rfl; exact rfl; exact rfl)
      | (apply WD.store1; exact rfl; exact rfl; exact rfl)
      | (apply W.condT; exact rfl)
      | (apply W.condF; exact rfl)
      | (apply W.cond; exact rfl; all_goals intro _)
      | (apply WO.gT; exact rfl)
      | (apply WO.gF; exact rfl)
      | (apply WO.sT; exact rfl)
      | (apply WO.sF; exact rfl)
      | (apply WO.lss; exact rfl; exact rfl; all_goals first | (intro _; exfalso; omega) | intro _)
      | (apply WO.leq; exact rfl; exact rfl; all_goals first | (intro _; exfalso; omega) | intro _)
      | (apply WO.gtr; exact rfl; exact rfl; all_goals first | (intro _; exfalso; omega) | intro _)
      | (apply WO.geq; exact rfl; exact rfl; all_goals first | (intro _; exfalso; omega) | intro _)
      | (apply WO.eql; exact rfl; exact rfl; all_goals first | (intro _; exfalso; omega) | intro _)
      | (apply WO.neq; exact rfl; exact rfl; all_goals first | (intro _; exfalso; omega) | intro _)
      | (apply WO.pkT; exact rfl; exact rfl)
      | (apply WO.pkF; exact rfl; exact rfl)
      | (apply WO.add; exact rfl; exact rfl; omega)
      | (apply WO.sub; exact rfl; exact rfl; omega)
      | (apply WO.mul; exact rfl; exact rfl; omega)
      | (apply WO.remp; exact rfl; exact rfl; omega; intro _ _)
      | (apply WO.quop; exact rfl; exact rfl; omega; omega; intro _ _)
      | (apply WO.rem; exact rfl; exact rfl; omega)
      | (apply WO.quo; exact rfl; exact rfl; omega; omega)
      | (apply WO.cll; exact rfl; exact rfl; first | exact h18 _ | exact h20' _ | exact h19' _)
      | (apply WO.iav; exact rfl; exact rfl; omega)
      | (apply WO.ias; exact rfl; exact rfl; omega)
      | (apply WO.idx; exact rfl; exact rfl; omega)
      | (apply WO.mki; exact rfl; exact rfl; omega)
      | (apply WO.mkb; exact rfl; exact rfl; omega)
      | (apply WO.lda; exact rfl; exact fun _ => rfl; (first | omega | (simp only [List.length_set, List.length_append, List.length_cons, List.length_nil, List.length_replicate]; omega)); decide; exact rfl; case ia => infer_instance)
      | (apply WO.ldf; exact rfl; exact fun _ => rfl; (first | omega | (simp only [List.length_set, List.length_append, List.length_cons, List.length_nil, List.length_replicate]; omega)); decide; exact rfl; case ia => infer_instance)
      | (apply WO.lsa; exact rfl; (first | exact rfl | assumption | exact at_new | (apply at_old; assumption)); exact fun _ => rfl; (first | omega | (simp only [List.length_set, List.length_append, List.length_cons, List.length_nil, List.length_replicate]; omega)); decide; exact rfl; case ia => infer_instance)
      | (apply WO.lsf; exact rfl; (first | exact rfl | assumption | exact at_new | (apply at_old; assumption)); exact fun _ => rfl; (first | omega | (simp only [List.length_set, List.length_append, List.length_cons, List.length_nil, List.length_replicate]; omega)); decide; exact rfl; case ia => infer_instance)
      | (apply WO.sta; exact rfl; exact rfl; (first | exact rfl | assumption | exact at_new | (apply at_old; assumption)); exact fun _ => rfl; (first | omega | (simp only [List.length_set, List.length_append, List.length_cons, List.length_nil, List.length_replicate]; omega)); exact ⟨rfl, by decide, rfl⟩; exact rfl; case ia => infer_instance)
      | (apply WO.stf; exact rfl; exact rfl; (first | exact rfl | assumption | exact at_new | (apply at_old; assumption)); exact fun _ => rfl; (first | omega | (simp only [List.length_set, List.length_append, List.length_cons, List.length_nil, List.length_replicate]; omega)); exact ⟨rfl, by decide, rfl⟩; exact rfl; case ia => infer_instance)
      | (apply WO.pl; exact rfl; exact rfl)
      | (apply WO.pp; exact rfl; exact rfl)
    · exact ⟨.inr rfl, rfl, _, rfl, rfl, by simp [AV.top]⟩
    · have e0 : List.replicate (n : Int).toNat false = seen n (L.take 0) := by simp [seen, List.map_const']
      rw [e0]
      refine body9_0 n (by omega) L hlen hnd hmem _ _ _ _ _ _ _ _ _ _ _ _ _ n 0 (by omega) _ _ _ (fun a6 lo wr sn => ?_)
      by_cases h2 : 2 ≤ n
      · obtain ⟨hA, hB⟩ := hall h2
        have hC := h19'' h2
        repeat' first
          | apply W.seq
          | apply SQn
          | apply W.region
          | apply WO.nil
          | apply W.block
          | apply W.ret
          | apply W.exit
          | apply W.skip
          | apply SQr
          | apply SQe
          | apply BQn
          | apply BQr
          | apply BQe
          | (apply BQo; exact rfl)
          | apply LQe
          | apply LQr
          | (apply W.drawro; exact rfl)
          | apply W.draw
          | apply WD.nil
          | (apply WD.pure1; exact rfl)
          | (apply WD.load1; exact rfl; exact rfl; exact rfl)
          | (apply WD.store1; exact rfl; exact rfl; exact rfl)
          | (apply W.condT; exact rfl)
          | (apply W.condF; exact rfl)
          | (apply W.cond; exact rfl; all_goals intro _)
          | (apply WO.gT; exact rfl)
          | (apply WO.gF; exact rfl)
          | (apply WO.sT; exact rfl)
          | (apply WO.sF; exact rfl)
          | (apply WO.lss; exact rfl; exact rfl; all_goals first | (intro _; exfalso; omega) | intro _)
          | (apply WO.leq; exact rfl; exact rfl; all_goals first | (intro _; exfalso; omega) | intro _)
          | (apply WO.gtr; exact rfl; exact rfl; all_goals first | (intro _; exfalso; omega) | intro _)
          | (apply WO.geq; exact rfl; exact rfl; all_goals first | (intro _; exfalso; omega) | intro _)
          | (apply WO.eql; exact rfl; exact rfl; all_goals first | (intro _; exfalso; omega) | intro _)
          | (apply WO.neq; exact rfl; exact rfl; all_goals first | (intro _; exfalso; omega) | intro _)
          | (apply WO.pkT; exact rfl; exact rfl)
          | (apply WO.pkF; exact rfl; exact rfl)
          | (apply WO.add; exact rfl; exact rfl; omega)
          | (apply WO.sub; exact rfl; exact rfl; omega)
          | (apply WO.mul; exact rfl; exact rfl; omega)
          | (apply WO.remp; exact rfl; exact rfl; omega; intro _ _)
          | (apply WO.quop; exact rfl; exact rfl; omega; omega; intro _ _)
          | (apply WO.rem; exact rfl; exact rfl; omega)
          | (apply WO.quo; exact rfl; exact rfl; omega; omega)
          | (apply WO.cll; exact rfl; exact rfl; first | exact hC _)
          | (apply WO.iav; exact rfl; exact rfl; omega)
          | (apply WO.ias; exact rfl; exact rfl; omega)
          | (apply WO.idx; exact rfl; exact rfl; omega)
          | (apply WO.mki; exact rfl; exact rfl; omega)
          | (apply WO.mkb; exact rfl; exact rfl; omega)
          | (apply WO.lda; exact rfl; exact fun _ => rfl; (first | omega | (simp only [List.length_set, List.length_append, List.length_cons, List.length_nil, List.length_replicate]; omega)); decide; exact rfl; case ia => infer_instance)
          | (apply WO.ldf; exact rfl; exact fun _ => rfl; (first | omega | (simp only [List.length_set, List.length_append, List.length_cons, List.length_nil, List.length_replicate]; omega)); decide; exact rfl; case ia => infer_instance)
          | (apply WO.lsa; exact rfl; (first | exact rfl | assumption | exact at_new | (apply at_old; assumption)); exact fun _ => rfl; (first | omega | (simp only [List.length_set, List.length_append, List.length_cons, List.length_nil, List.length_replicate]; omega)); decide; exact rfl; case ia => infer_instance)
          | (apply WO.lsf; exact rfl; (first | exact rfl | assumption | exact at_new | (apply at_old; assumption)); exact fun _ => rfl; (first | omega | (simp only [List.length_set, List.length_append, List.length_cons, List.length_nil, List.length_replicate]; omega)); decide; exact rfl; case ia => infer_instance)
          | (apply WO.sta; exact rfl; exact rfl; (first | exact rfl | assumption | exact at_new | (apply at_old; assumption)); exact fun _ => rfl; (first | omega | (simp only [List.length_set, List.length_append, List.length_cons, List.length_nil, List.length_replicate]; omega)); exact ⟨rfl, by decide, rfl⟩; exact rfl; case ia => infer_instance)
          | (apply WO.stf; exact rfl; exact rfl; (first | exact rfl | assumption | exact at_new | (apply at_old; assumption)); exact fun _ => rfl; (first | omega | (simp only [List.length_set, List.length_append, List.length_cons, List.length_nil, List.length_replicate]; omega)); exact ⟨rfl, by decide, rfl⟩; exact rfl; case ia => infer_instance)
          | (apply WO.pl; exact rfl; exact rfl)
          | (apply WO.pp; exact rfl; exact rfl)
        refine body9_1 n (by omega) L R (69621 * key % 2147483647) (by omega) h2 hlen hlenR (fun i hi => ⟨(hm2 h2 i hi).1, (hm2 h2 i hi).2, hB i hi⟩) _ _ _ _ _ _ _ _ _ _ _ (n - 1) 0 (by omega) _ _ _ _ _ (fun a10 a11 a12 lo wr => ?_)
        repeat' first
          | apply W.seq
          | apply SQn
          | apply W.region
          | apply WO.nil
          | apply W.block
          | apply W.ret
          | apply W.exit
          | apply W.skip
          | apply SQr
          | apply SQe
          | apply BQn
          | apply BQr
          | apply BQe
          | (apply BQo; exact rfl)
          | apply LQe
          | apply LQr
          | (apply W.drawro; exact rfl)
          | apply W.draw
          | apply WD.nil
          | (apply WD.pure1; exact rfl)
          | (apply WD.load1; exact rfl; exact rfl; exact rfl)
          | (apply WD.store1; exact rfl; exact rfl; exact rfl)
          | (apply W.condT; exact rfl)
          | (apply W.condF; exact rfl)
          | (apply W.cond; exact rfl; all_goals intro _)
          | (apply WO.gT; exact rfl)
          | (apply WO.gF; exact rfl)
          | (apply WO.sT; exact rfl)
          | (apply WO.sF; exact rfl)
          | (apply WO.lss; exact rfl; exact rfl; all_goals first | (intro _; exfalso; omega) | intro _)
          | (apply WO.leq; exact rfl; exact rfl; all_goals first | (intro _; exfalso; omega) | intro _)
          | (apply WO.gtr; exact rfl; exact rfl; all_goals first | (intro _; exfalso; omega) | intro _)
          | (apply WO.geq; exact rfl; exact rfl; all_goals first | (intro _; exfalso; omega) | intro _)
          | (apply WO.eql; exact rfl; exact rfl; all_goals first | (intro _; exfalso; omega) | intro _)
          | (apply WO.neq; exact rfl; exact rfl; all_goals first | (intro _; exfalso; omega) | intro _)
          | (apply WO.pkT; exact rfl; exact rfl)
          | (apply WO.pkF; exact rfl; exact rfl)
          | (apply WO.add; exact rfl; exact rfl; omega)
          | (apply WO.sub; exact rfl; exact rfl; omega)
          | (apply WO.mul; exact rfl; exact rfl; omega)
          | (apply WO.remp; exact rfl; exact rfl; omega; intro _ _)
          | (apply WO.quop; exact rfl; exact rfl; omega; omega; intro _ _)
          | (apply WO.rem; exact rfl; exact rfl; omega)
          | (apply WO.quo; exact rfl; exact rfl; omega; omega)
          | (apply WO.iav; exact rfl; exact rfl; omega)
          | (apply WO.ias; exact rfl; exact rfl; omega)
          | (apply WO.idx; exact rfl; exact rfl; omega)
          | (apply WO.mki; exact rfl; exact rfl; omega)
          | (apply WO.mkb; exact rfl; exact rfl; omega)
          | (apply WO.lda; exact rfl; exact fun _ => rfl; (first | omega | (simp only [List.length_set, List.length_append, List.length_cons, List.length_nil, List.length_replicate]; omega)); decide; exact rfl; case ia => infer_instance)
          | (apply WO.ldf; exact rfl; exact fun _ => rfl; (first | omega | (simp only [List.length_set, List.length_append, List.length_cons, List.length_nil, List.length_replicate]; omega)); decide; exact rfl; case ia => infer_instance)
          | (apply WO.lsa; exact rfl; (first | exact rfl | assumption | exact at_new | (apply at_old; assumption)); exact fun _ => rfl; (first | omega | (simp only [List.length_set, List.length_append, List.length_cons, List.length_nil, List.length_replicate]; omega)); decide; exact rfl; case ia => infer_instance)
          | (apply WO.lsf; exact rfl; (first | exact rfl | assumption | exact at_new | (apply at_old; assumption)); exact fun _ => rfl; (first | omega | (simp only [List.length_set, List.length_append, List.length_cons, List.length_nil, List.length_replicate]; omega)); decide; exact rfl; case ia => infer_instance)
          | (apply WO.sta; exact rfl; exact rfl; (first | exact rfl | assumption | exact at_new | (apply at_old; assumption)); exact fun _ => rfl; (first | omega | (simp only [List.length_set, List.length_append, List.length_cons, List.length_nil, List.length_replicate]; omega)); exact ⟨rfl, by decide, rfl⟩; exact rfl; case ia => infer_instance)
          | (apply WO.stf; exact rfl; exact rfl; (first | exact rfl | assumption | exact at_new | (apply at_old; assumption)); exact fun _ => rfl; (first | omega | (simp only [List.length_set, List.length_append, List.length_cons, List.length_nil, List.length_replicate]; omega)); exact ⟨rfl, by decide, rfl⟩; exact rfl; case ia => infer_instance)
          | (apply WO.pl; exact rfl; exact rfl)
          | (apply WO.pp; exact rfl; exact rfl)
        exact ⟨.inr rfl, rfl, _, rfl, rfl, by simp [AV.top]⟩
      · repeat' first
          | apply W.seq
          | apply SQn
          | apply W.region
          | apply WO.nil
          | apply W.block
          | apply W.ret
          | apply W.exit
          | apply W.skip
          | apply SQr
          | apply SQe
          | apply BQn
          | apply BQr
          | apply BQe
          | (apply BQo; exact rfl)
          | apply LQe
          | apply LQr
          | (apply W.drawro; exact rfl)
          | apply W.draw
          | apply WD.nil
          | (apply WD.pure1; exact rfl)
          | (apply WD.load1; exact rfl; exact rfl; exact rfl)
          | (apply WD.store1; exact rfl; exact rfl; exact rfl)
          | (apply W.condT; exact rfl)
          | (apply W.condF; exact rfl)
          | (apply W.cond; exact rfl; all_goals intro _)
          | (apply WO.gT; exact rfl)
          | (apply WO.gF; exact rfl)
          | (apply WO.sT; exact rfl)
          | (apply WO.sF; exact rfl)
          | (apply WO.lss; exact rfl; exact rfl; all_goals first | (intro _; exfalso; omega) | intro _)
          | (apply WO.leq; exact rfl; exact rfl; all_goals first | (intro _; exfalso; omega) | intro _)
          | (apply WO.gtr; exact rfl; exact rfl; all_goals first | (intro _; exfalso; omega) | intro _)
          | (apply WO.geq; exact rfl; exact rfl; all_goals first | (intro _; exfalso; omega) | intro _)
          | (apply WO.eql; exact rfl; exact rfl; all_goals first | (intro _; exfalso; omega) | intro _)
          | (apply WO.neq; exact rfl; exact rfl; all_goals first | (intro _; exfalso; omega) | intro _)
          | (apply WO.pkT; exact rfl; exact rfl)
          | (apply WO.pkF; exact rfl; exact rfl)
          | (apply WO.add; exact rfl; exact rfl; omega)
          | (apply WO.sub; exact rfl; exact rfl; omega)
          | (apply WO.mul; exact rfl; exact rfl; omega)
          | (apply WO.remp; exact rfl; exact rfl; omega; intro _ _)
          | (apply WO.quop; exact rfl; exact rfl; omega; omega; intro _ _)
          | (apply WO.rem; exact rfl; exact rfl; omega)
          | (apply WO.quo; exact rfl; exact rfl; omega; omega)
          | (apply WO.iav; exact rfl; exact rfl; omega)
          | (apply WO.ias; exact rfl; exact rfl; omega)
          | (apply WO.idx; exact rfl; exact rfl; omega)
          | (apply WO.mki; exact rfl; exact rfl; omega)
          | (apply WO.mkb; exact rfl; exact rfl; omega)
          | (apply WO.lda; exact rfl; exact fun _ => rfl; (first | omega | (simp only [List.length_set, List.length_append, List.length_cons, List.length_nil, List.length_replicate]; omega)); decide; exact rfl; case ia => infer_instance)
          | (apply WO.ldf; exact rfl; exact fun _ => rfl; (first | omega | (simp only [List.length_set, List.length_append, List.length_cons, List.length_nil, List.length_replicate]; omega)); decide; exact rfl; case ia => infer_instance)
          | (apply WO.lsa; exact rfl; (first | exact rfl | assumption | exact at_new | (apply at_old; assumption)); exact fun _ => rfl; (first | omega | (simp only [List.length_set, List.length_append, List.length_cons, List.length_nil, List.length_replicate]; omega)); decide; exact rfl; case ia => infer_instance)
          | (apply WO.lsf; exact rfl; (first | exact rfl | assumption | exact at_new | (apply at_old; assumption)); exact fun _ => rfl; (first | omega | (simp only [List.length_set, List.length_append, List.length_cons, List.length_nil, List.length_replicate]; omega)); decide; exact rfl; case ia => infer_instance)
          | (apply WO.sta; exact rfl; exact rfl; (first | exact rfl | assumption | exact at_new | (apply at_old; assumption)); exact fun _ => rfl; (first | omega | (simp only [List.length_set, List.length_append, List.length_cons, List.length_nil, List.length_replicate]; omega)); exact ⟨rfl, by decide, rfl⟩; exact rfl; case ia => infer_instance)
          | (apply WO.stf; exact rfl; exact rfl; (first | exact rfl | assumption | exact at_new | (apply at_old; assumption)); exact fun _ => rfl; (first | omega | (simp only [List.length_set, List.length_append, List.length_cons, List.length_nil, List.length_replicate]; omega)); exact ⟨rfl, by decide, rfl⟩; exact rfl; case ia => infer_instance)
          | (apply WO.pl; exact rfl; exact rfl)
          | (apply WO.pp; exact rfl; exact rfl)
        exact ⟨.inr rfl, rfl, _, rfl, rfl, by simp [AV.top]⟩
end Go.Ab.Ch1

/-
  Own work: Shuffles: the closed facts of its row, each by the kernel.
-/
namespace Go.Proofs.YtcjphdmkgmkabaaGreatDoor.markShuffles
open Go.ChangeShapes Go.WideShapes Go.ChangeAt
theorem band {a b : Bool} (h : a = true) (k : b = true) : (a && b) = true := by rw [h, k]; rfl
theorem fact0 : (Rows.markShufflesRow.wf (OpenSpec.ofChange ((OpenSpec.ofChange Rows.markShufflesSpec).bare))) = true := by kernel_rfl
theorem fact1 : (laidOutB Tryz.pinned.checked.prog) = true := by kernel_rfl
theorem fact2 : (mapsRowed Tryz.pinned.checked.prog) = true := by kernel_rfl
theorem fact3 : (Tryz.f9.params.all (Tryz.pinned.checked.prog.readableRec ·)) = true := by kernel_rfl
theorem fact4 : (namedTie Tryz.pinned.checked.prog Rows.markShufflesRow.named ((OpenSpec.ofChange Rows.markShufflesSpec).bare).vars) = true := by kernel_rfl
theorem fact5 : ((Rows.markShufflesRow.stops == [])) = true := by kernel_rfl
theorem fact6 : ((Tryz.pinned.checked.prog.stops == [])) = true := by kernel_rfl
theorem fact7 : ((Rows.markShufflesRow.knobs == [])) = true := by kernel_rfl
theorem fact8 : ((Tryz.pinned.checked.prog.stopKnobs == [])) = true := by kernel_rfl
theorem fact9 : ((Rows.markShufflesRow.inPlace == Tryz.pinned.checked.prog.inPlace 9)) = true := by kernel_rfl
theorem fact10 : ((Rows.markShufflesRow.unfollowed == Tryz.pinned.checked.prog.unfollowed 9)) = true := by kernel_rfl
theorem fact11 : ((Rows.markShufflesRow.recurses == Tryz.pinned.checked.prog.recurses 9)) = true := by kernel_rfl
theorem fact12 : ((Rows.markShufflesRow.named == Tryz.pinned.checked.prog.varsNamed 9)) = true := by kernel_rfl
theorem fact13 : ((Rows.markShufflesRow.maps == (Tryz.f9.params.toList ++ ((OpenSpec.ofChange Rows.markShufflesSpec).bare).plain.varTypes Tryz.pinned.checked.prog).any (Tryz.pinned.checked.prog.mapsRec ·))) = true := by kernel_rfl
theorem fact14 : ((Rows.markShufflesRow.ifaces == (Tryz.f9.params.toList ++ ((OpenSpec.ofChange Rows.markShufflesSpec).bare).plain.varTypes Tryz.pinned.checked.prog).any (Tryz.pinned.checked.prog.ifacesRec ·))) = true := by kernel_rfl
theorem fact15 : ((Rows.markShufflesRow.mapsOut == Tryz.pinned.checked.prog.mapsAmong Tryz.f9.resultTypes.toList)) = true := by kernel_rfl
theorem fact16 : ((Rows.markShufflesRow.loops == (Tryz.f9.params.toList ++ ((OpenSpec.ofChange Rows.markShufflesSpec).bare).plain.varTypes Tryz.pinned.checked.prog).any (Tryz.pinned.checked.prog.loopsFrom ·))) = true := by kernel_rfl
theorem fact17 : ((Rows.markShufflesRow.wideKeys == (Tryz.f9.params.toList ++ ((OpenSpec.ofChange Rows.markShufflesSpec).bare).plain.varTypes Tryz.pinned.checked.prog ++ Tryz.f9.resultTypes.toList).any (Tryz.pinned.checked.prog.wideKeysFrom ·))) = true := by kernel_rfl
theorem fact18 : (((OpenSpec.ofChange Rows.markShufflesSpec).bare).vars.all (Tryz.pinned.checked.prog.varReadable ·)) = true := by kernel_rfl
theorem fact19 : (Tryz.f9.resultTypes.all (fun t => Tryz.pinned.checked.prog.readableRec t && decide (t < Tryz.pinned.checked.prog.types.size))) = true := by kernel_rfl
theorem fact20 : ((Rows.markShufflesRow.ifacesOut == Tryz.f9.resultTypes.toList.any (Tryz.pinned.checked.prog.ifacesRec ·))) = true := by kernel_rfl
theorem fact21 : ((Rows.markShufflesRow.loopsOut == Tryz.f9.resultTypes.toList.any (Tryz.pinned.checked.prog.loopsFrom ·))) = true := by kernel_rfl
theorem fact22 : ((Rows.markShufflesRow.plainKeys == Tryz.pinned.checked.prog.plainKeys)) = true := by kernel_rfl
theorem fact23 : (Rows.markShufflesRow.shortTexts.isNone) = true := by kernel_rfl
theorem fact24 : (Tryz.pinned.checked.prog.stopsHeard) = true := by kernel_rfl
theorem fact25 : (Tryz.pinned.checked.prog.mayEnter) = true := by kernel_rfl
theorem fact26 : ((Rows.markShufflesRow.lifted == Tryz.pinned.checked.prog.liftsFinal)) = true := by kernel_rfl
theorem fact27 : ((Tryz.pinned.checked.prog.make == some Rows.markShufflesRow.make)) = true := by kernel_rfl
theorem fact28 : ((Rows.markShufflesRow.kinds == (if Rows.markShufflesRow.domain.isEmpty then [] else Tryz.f9.params.toList.map fun t => match Tryz.pinned.checked.prog.underlying t with | some (.int k) => some k | _ => none))) = true := by kernel_rfl
theorem fact29 : ((Rows.markShufflesRow.pinned == Rows.markShufflesRow.pinnedBy)) = true := by kernel_rfl
theorem fact30 : ((Rows.markShufflesRow.veiled == (Tryz.f9.params.toList ++ ((OpenSpec.ofChange Rows.markShufflesSpec).bare).plain.varTypes Tryz.pinned.checked.prog ++ Tryz.f9.resultTypes.toList).any (Tryz.pinned.checked.prog.veiledRec ·))) = true := by kernel_rfl
theorem fact31 : (Rows.markShufflesRow.veiledFits Tryz.pinned.checked.prog Tryz.f9.params.toList (Tryz.f9.params.toList ++ ((OpenSpec.ofChange Rows.markShufflesSpec).bare).plain.varTypes Tryz.pinned.checked.prog ++ Tryz.f9.resultTypes.toList)) = true := by kernel_rfl
set_option maxRecDepth 100000 in
theorem closed : joinedFacts Tryz.pinned.checked.prog 9 Tryz.f9 ((OpenSpec.ofChange Rows.markShufflesSpec).bare) Rows.markShufflesRow = true := by
  unfold joinedFacts
  exact (band (band (band (band (band (band (band (band (band (band (band (band (band (band (band (band (band (band (band (band (band (band (band (band (band (band (band (band (band (band (band fact0 fact1) fact2) fact3) fact4) fact5) fact6) fact7) fact8) fact9) fact10) fact11) fact12) fact13) fact14) fact15) fact16) fact17) fact18) fact19) fact20) fact21) fact22) fact23) fact24) fact25) fact26) fact27) fact28) fact29) fact30) fact31)
theorem named : Tryz.prog.funcNamed "stadion/stadionlaw01.MarkShuffles" = some 9 := by kernel_rfl
theorem wfText : Rows.markShufflesRow.wfByText (OpenSpec.ofChange Rows.markShufflesSpec) = true := by kernel_rfl
theorem mainIs : Tryz.pinned.checked.prog.mainIs = some (Rows.markShufflesCard.stood.harness.1, Rows.markShufflesCard.stood.harness.2.toList) := by kernel_rfl
theorem looksT : true = Tryz.pinned.checked.prog.looks [] := by kernel_rfl
theorem goesF : false = Rows.markShufflesRow.goesBy Tryz.pinned.checked.prog := by kernel_rfl
theorem noStand : ([3, 3].all fun u => !Tryz.prog.wantsStandIn u) = true := by kernel_rfl
/-- No parameter wants a stand-in; the program's own looks are as the card says. -/
theorem plain (f : FuncId) (fn : Func) (hf : Tryz.pinned.checked.prog.funcNamed "stadion/stadionlaw01.MarkShuffles" = some f) (hfn : Tryz.pinned.checked.prog.funcs[f]? = some fn) :
    true = Tryz.pinned.checked.prog.looks [] ∧ ∀ (j : Nat) t, fn.params[j]? = some t → Tryz.pinned.checked.prog.wantsStandIn t = false := by
  obtain rfl : f = 9 := Option.some.inj (named.symm.trans hf) |>.symm
  obtain rfl : fn = Tryz.f9 := (Option.some.inj (Tryz.func9.symm.trans hfn)).symm
  refine ⟨looksT, fun j t ht => ?_⟩
  rw [Tryz.params9] at ht
  have hm : t ∈ [3, 3] := by simpa using Array.mem_of_getElem? ht
  exact (show Tryz.prog.wantsStandIn t = false by simpa using List.all_eq_true.1 noStand t hm)
end Go.Proofs.YtcjphdmkgmkabaaGreatDoor.markShuffles
