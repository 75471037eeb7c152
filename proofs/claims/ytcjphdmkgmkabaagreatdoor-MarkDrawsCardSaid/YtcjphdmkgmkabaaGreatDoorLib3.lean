/-
  Own work: the resolved code of some functions of chapter 1.
-/
import Derived.Test.YtcjphdmkgmkabaaGreatDoorCh1Base
import Derived.Test.YtcjphdmkgmkabaaGreatDoorLib2
import Derived.Test.YtcjphdmkgmkabaaGreatDoorCh1Row
import Derived.IntWalk
namespace Go.Ab.Ch1
set_option maxRecDepth 1000000
def b19_0 : ICode :=
 .seq (.region [⟨(.l 21), .bin .lss (.p 9) (.p 8), none⟩])
  (.seq (.cond (.l 21)
    (.skip)
    (.exit 0))
   (.seq (.block 1
     (.seq (.region [⟨(.l 22), .mv (.p 9), none⟩,
        ⟨(.p 5), .mv (.l 22), none⟩])
      (.region [⟨(.l 23), .mv (.p 4), none⟩,
        ⟨(.l 24), .mv (.p 5), none⟩,
        ⟨(.l 25), .mv (.p 5), none⟩,
        ⟨(.l 26), .iaddr none 1 (.l 23) (.l 24), none⟩,
        ⟨.no, .store 1 (.l 26) (.l 25), none⟩])))
    (.region [⟨(.l 27), .bin .add (.p 9) (.c (.int .i64 (1))), none⟩,
      ⟨(.p 9), .mv (.l 27), none⟩])))
def b19_1 : ICode :=
 .seq (.seq (.region [⟨(.l 30), .mv (.p 6), none⟩,
     ⟨(.l 31), .bin .gtr (.l 30) (.c (.int .i64 (0))), none⟩])
   (.cond (.l 31)
    (.skip)
    (.exit 2)))
  (.seq (.block 3
    (.seq (.region [⟨(.l 34), .mv (.p 0), none⟩,
       ⟨(.l 35), .bin .mul (.c (.int .i64 (69621))) (.l 34), none⟩,
       ⟨(.l 36), .bin .rem (.l 35) (.c (.int .i64 (2147483647))), none⟩,
       ⟨(.p 0), .mv (.l 36), none⟩])
     (.seq (.region [⟨(.l 37), .mv (.p 0), none⟩,
        ⟨(.l 38), .mv (.p 6), none⟩,
        ⟨(.l 39), .bin .add (.l 38) (.c (.int .i64 (1))), none⟩,
        ⟨(.l 40), .bin .rem (.l 37) (.l 39), none⟩,
        ⟨(.p 7), .mv (.l 40), none⟩])
      (.draw [(⟨(.l 41), .mv (.p 4), none⟩, []),
        (⟨(.l 42), .mv (.p 6), none⟩, [0]),
        (⟨(.l 43), .mv (.p 4), none⟩, [0, 1]),
        (⟨(.l 44), .mv (.p 7), none⟩, [0, 1, 2]),
        (⟨(.l 45), .mv (.p 4), none⟩, [0, 1, 2, 3]),
        (⟨(.l 46), .mv (.p 7), none⟩, [0, 1, 2, 3, 4]),
        (⟨(.l 47), .iaddr none 1 (.l 45) (.l 46), none⟩, [0, 1, 2, 3]),
        (⟨(.l 48), .load 1 false (.l 47), none⟩, [0, 1, 2, 3]),
        (⟨(.l 49), .mv (.p 4), none⟩, [0, 1, 2, 3, 4, 5, 6, 7]),
        (⟨(.l 50), .mv (.p 6), none⟩, [0, 1, 2, 3, 4, 5, 6, 7, 8]),
        (⟨(.l 51), .iaddr none 1 (.l 49) (.l 50), none⟩, [0, 1, 2, 3, 4, 5, 6, 7]),
        (⟨(.l 52), .load 1 false (.l 51), none⟩, [0, 1, 2, 3, 4, 5, 6, 7]),
        (⟨(.l 53), .iaddr none 1 (.l 41) (.l 42), none⟩, [2, 3]),
        (⟨.no, .store 1 (.l 53) (.l 48), none⟩, [2, 3]),
        (⟨(.l 54), .iaddr none 1 (.l 43) (.l 44), none⟩, []),
        (⟨.no, .store 1 (.l 54) (.l 52), none⟩, [])]))))
   (.region [⟨(.l 32), .mv (.p 6), none⟩,
     ⟨(.l 33), .bin .sub (.l 32) (.c (.int .i64 (1))), none⟩,
     ⟨(.p 6), .mv (.l 33), none⟩]))
/-- stadion/mark.Draw -/
def b19 : ICode :=
 .seq (.region [⟨(.p 2), .mv (.c (.nilsl)), none⟩,
    ⟨(.p 3), .mv (.c (.int .i64 (0))), none⟩])
  (.seq (.seq (.region [⟨(.l 10), .mv (.p 0), none⟩,
      ⟨(.l 11), .call (.c (.fn (.func 95) [] [])) [(.l 10), (.c (.int .i64 (1))), (.c (.int .i64 (2147483646)))], none⟩,
      ⟨(.l 12), .mv (.l 11), none⟩,
      ⟨(.l 13), .mv (.p 1), some ((.l 12), false)⟩,
      ⟨(.l 14), .call (.c (.fn (.func 95) [] [])) [(.l 13), (.c (.int .i64 (0))), (.c (.int .i64 (256)))], some ((.l 12), false)⟩,
      ⟨(.l 15), .pick (.l 12) (.c (.bool true)) (.l 14), none⟩])
    (.cond (.l 15)
     (.seq (.region [⟨(.p 2), .mv (.c (.nilsl)), none⟩,
        ⟨(.p 3), .mv (.c (.int .i64 (3))), none⟩])
      (.ret))
     (.skip)))
   (.seq (.region [⟨(.l 16), .mv (.p 1), none⟩,
      ⟨(.l 17), .mkslice 3 1 8 [.int .i64 (0)] (.l 16) (.l 16), none⟩,
      ⟨(.p 4), .mv (.l 17), none⟩])
    (.seq (.seq (.region [⟨(.l 18), .mv (.p 4), none⟩,
        ⟨(.p 8), .len .sl (.l 18), none⟩,
        ⟨(.p 9), .mv (.c (.int .i64 (0))), none⟩])
      (.block 0
       (.loop b19_0)))
     (.seq (.seq (.region [⟨(.l 28), .mv (.p 1), none⟩,
         ⟨(.l 29), .bin .sub (.l 28) (.c (.int .i64 (1))), none⟩,
         ⟨(.p 6), .mv (.l 29), none⟩])
       (.block 2
        (.loop b19_1)))
      (.seq (.region [⟨(.l 55), .mv (.p 4), none⟩,
         ⟨(.p 2), .mv (.l 55), none⟩,
         ⟨(.p 3), .mv (.c (.int .i64 (0))), none⟩])
       (.ret))))))
theorem ft19 : FT 19 = some ⟨56, [0, 1, 4, 5, 6, 7, 8, 9, 19, 20], [.var (.p 2), .var (.p 3)], b19⟩ := by kernel_rfl

/-- stadion/mark.outside -/
def b95 : ICode :=
 .seq (.region [⟨(.p 3), .mv (.c (.bool false)), none⟩])
  (.seq (.region [⟨(.l 7), .mv (.p 0), none⟩,
     ⟨(.l 8), .mv (.p 1), none⟩,
     ⟨(.l 9), .bin .lss (.l 7) (.l 8), none⟩,
     ⟨(.l 10), .mv (.l 9), none⟩,
     ⟨(.l 11), .mv (.p 0), some ((.l 10), false)⟩,
     ⟨(.l 12), .mv (.p 2), some ((.l 10), false)⟩,
     ⟨(.l 13), .bin .gtr (.l 11) (.l 12), some ((.l 10), false)⟩,
     ⟨(.l 14), .pick (.l 10) (.c (.bool true)) (.l 13), none⟩,
     ⟨(.p 3), .mv (.l 14), none⟩])
   (.ret))
theorem ft95 : FT 95 = some ⟨15, [0, 1, 2, 6], [.var (.p 3)], b95⟩ := by kernel_rfl

def b9_0 : ICode :=
 .seq (.region [⟨(.l 48), .bin .lss (.p 15) (.p 14), none⟩])
  (.seq (.cond (.l 48)
    (.skip)
    (.exit 0))
   (.seq (.block 1
     (.seq (.region [⟨(.l 49), .iaddr none 1 (.p 13) (.p 15), none⟩,
        ⟨(.l 50), .load 1 false (.l 49), none⟩,
        ⟨(.p 6), .mv (.l 50), none⟩])
      (.seq (.seq (.region [⟨(.l 51), .mv (.p 6), none⟩,
          ⟨(.l 52), .bin .lss (.l 51) (.c (.int .i64 (0))), none⟩,
          ⟨(.l 53), .mv (.l 52), none⟩,
          ⟨(.l 54), .mv (.p 6), some ((.l 53), false)⟩,
          ⟨(.l 55), .mv (.p 1), some ((.l 53), false)⟩,
          ⟨(.l 56), .bin .geq (.l 54) (.l 55), some ((.l 53), false)⟩,
          ⟨(.l 57), .pick (.l 53) (.c (.bool true)) (.l 56), none⟩,
          ⟨(.l 58), .mv (.l 57), none⟩,
          ⟨(.l 59), .mv (.p 5), some ((.l 58), false)⟩,
          ⟨(.l 60), .mv (.p 6), some ((.l 58), false)⟩,
          ⟨(.l 61), .iaddr none 1 (.l 59) (.l 60), some ((.l 58), false)⟩,
          ⟨(.l 62), .load 1 false (.l 61), some ((.l 58), false)⟩,
          ⟨(.l 63), .pick (.l 58) (.c (.bool true)) (.l 62), none⟩])
        (.cond (.l 63)
         (.seq (.region [⟨(.p 2), .mv (.c (.bool false)), none⟩])
          (.ret))
         (.skip)))
       (.region [⟨(.l 64), .mv (.p 5), none⟩,
         ⟨(.l 65), .mv (.p 6), none⟩,
         ⟨(.l 66), .iaddr none 1 (.l 64) (.l 65), none⟩,
         ⟨.no, .store 1 (.l 66) (.c (.bool true)), none⟩]))))
    (.region [⟨(.l 67), .bin .add (.p 15) (.c (.int .i64 (1))), none⟩,
      ⟨(.p 15), .mv (.l 67), none⟩])))
def b9_1 : ICode :=
 .seq (.region [⟨(.l 101), .bin .lss (.p 18) (.p 17), none⟩])
  (.seq (.cond (.l 101)
    (.skip)
    (.exit 2))
   (.seq (.block 3
     (.seq (.region [⟨(.l 102), .mv (.p 18), none⟩,
        ⟨(.l 103), .iaddr none 1 (.p 16) (.p 18), none⟩,
        ⟨(.l 104), .load 1 false (.l 103), none⟩,
        ⟨(.p 10), .mv (.l 102), none⟩,
        ⟨(.p 11), .mv (.l 104), none⟩])
      (.seq (.region [⟨(.l 105), .mv (.p 11), none⟩,
         ⟨(.p 12), .mv (.l 105), none⟩])
       (.seq (.seq (.region [⟨(.l 106), .mv (.p 11), none⟩,
           ⟨(.l 107), .mv (.p 7), none⟩,
           ⟨(.l 108), .mv (.p 1), none⟩,
           ⟨(.l 109), .bin .rem (.l 107) (.l 108), none⟩,
           ⟨(.l 110), .bin .eql (.l 106) (.l 109), none⟩])
         (.cond (.l 110)
          (.region [⟨(.l 111), .mv (.p 1), none⟩,
            ⟨(.l 112), .bin .sub (.l 111) (.c (.int .i64 (1))), none⟩,
            ⟨(.p 12), .mv (.l 112), none⟩])
          (.skip)))
        (.seq (.region [⟨(.l 113), .mv (.p 11), none⟩,
           ⟨(.l 114), .bin .lss (.l 113) (.c (.int .i64 (0))), none⟩,
           ⟨(.l 115), .mv (.l 114), none⟩,
           ⟨(.l 116), .mv (.p 11), some ((.l 115), false)⟩,
           ⟨(.l 117), .mv (.p 1), some ((.l 115), false)⟩,
           ⟨(.l 118), .bin .sub (.l 117) (.c (.int .i64 (1))), some ((.l 115), false)⟩,
           ⟨(.l 119), .bin .geq (.l 116) (.l 118), some ((.l 115), false)⟩,
           ⟨(.l 120), .pick (.l 115) (.c (.bool true)) (.l 119), none⟩,
           ⟨(.l 121), .mv (.l 120), none⟩,
           ⟨(.l 122), .mv (.p 3), some ((.l 121), false)⟩,
           ⟨(.l 123), .mv (.p 10), some ((.l 121), false)⟩,
           ⟨(.l 124), .iaddr none 1 (.l 122) (.l 123), some ((.l 121), false)⟩,
           ⟨(.l 125), .load 1 false (.l 124), some ((.l 121), false)⟩,
           ⟨(.l 126), .mv (.p 12), some ((.l 121), false)⟩,
           ⟨(.l 127), .bin .neq (.l 125) (.l 126), some ((.l 121), false)⟩,
           ⟨(.l 128), .pick (.l 121) (.c (.bool true)) (.l 127), none⟩])
         (.cond (.l 128)
          (.seq (.region [⟨(.p 2), .mv (.c (.bool false)), none⟩])
           (.ret))
          (.skip)))))))
    (.region [⟨(.l 129), .bin .add (.p 18) (.c (.int .i64 (1))), none⟩,
      ⟨(.p 18), .mv (.l 129), none⟩])))
/-- stadion/stadionlaw01.MarkShuffles -/
def b9 : ICode :=
 .seq (.region [⟨(.p 2), .mv (.c (.bool false)), none⟩])
  (.seq (.seq (.region [⟨(.l 16), .call (.c (.fn (.func 18) [] [])) [], none⟩,
      ⟨(.l 17), .un .not (.l 16), none⟩,
      ⟨(.l 18), .mv (.l 17), none⟩,
      ⟨(.l 19), .mv (.p 0), some ((.l 18), false)⟩,
      ⟨(.l 20), .mv (.p 1), some ((.l 18), false)⟩,
      ⟨(.l 21), .call (.c (.fn (.func 20) [] [])) [(.l 19), (.l 20)], some ((.l 18), false)⟩,
      ⟨(.l 22), .bin .neq (.l 21) (.c (.int .i64 (0))), some ((.l 18), false)⟩,
      ⟨(.l 23), .pick (.l 18) (.c (.bool true)) (.l 22), none⟩,
      ⟨(.l 24), .mv (.l 23), none⟩,
      ⟨(.l 25), .mv (.p 1), some ((.l 24), false)⟩,
      ⟨(.l 26), .bin .gtr (.l 25) (.c (.int .i64 (40))), some ((.l 24), false)⟩,
      ⟨(.l 27), .pick (.l 24) (.c (.bool true)) (.l 26), none⟩])
    (.cond (.l 27)
     (.seq (.region [⟨(.l 28), .call (.c (.fn (.func 18) [] [])) [], none⟩,
        ⟨(.p 2), .mv (.l 28), none⟩])
      (.ret))
     (.skip)))
   (.seq (.region [⟨(.l 30), .mv (.p 0), none⟩,
      ⟨(.l 31), .mv (.p 1), none⟩,
      ⟨(.l 32), .call (.c (.fn (.func 19) [] [])) [(.l 30), (.l 31)], none⟩,
      ⟨(.l 29), .mv (.l 32), none⟩,
      ⟨(.l 33), .extract 0 (.l 29), none⟩,
      ⟨(.l 34), .extract 1 (.l 29), none⟩,
      ⟨(.p 3), .mv (.l 33), none⟩,
      ⟨(.p 4), .mv (.l 34), none⟩])
    (.seq (.seq (.region [⟨(.l 35), .mv (.p 4), none⟩,
        ⟨(.l 36), .bin .neq (.l 35) (.c (.int .i64 (0))), none⟩,
        ⟨(.l 37), .mv (.l 36), none⟩,
        ⟨(.l 38), .mv (.p 3), some ((.l 37), false)⟩,
        ⟨(.l 39), .len .sl (.l 38), some ((.l 37), false)⟩,
        ⟨(.l 40), .mv (.p 1), some ((.l 37), false)⟩,
        ⟨(.l 41), .bin .neq (.l 39) (.l 40), some ((.l 37), false)⟩,
        ⟨(.l 42), .pick (.l 37) (.c (.bool true)) (.l 41), none⟩])
      (.cond (.l 42)
       (.seq (.region [⟨(.p 2), .mv (.c (.bool false)), none⟩])
        (.ret))
       (.skip)))
     (.seq (.region [⟨(.l 43), .mv (.p 1), none⟩,
        ⟨(.l 44), .mkslice 4 1 1 [.bool false] (.l 43) (.l 43), none⟩,
        ⟨(.p 5), .mv (.l 44), none⟩])
      (.seq (.seq (.region [⟨(.p 13), .mv (.p 3), none⟩,
          ⟨(.p 14), .len .sl (.p 13), none⟩,
          ⟨(.p 15), .mv (.c (.int .i64 (0))), none⟩])
        (.block 0
         (.loop b9_0)))
       (.seq (.seq (.region [⟨(.l 68), .mv (.p 1), none⟩,
           ⟨(.l 69), .bin .lss (.l 68) (.c (.int .i64 (2))), none⟩])
         (.cond (.l 69)
          (.seq (.region [⟨(.p 2), .mv (.c (.bool true)), none⟩])
           (.ret))
          (.skip)))
        (.seq (.region [⟨(.l 70), .mv (.p 0), none⟩,
           ⟨(.l 71), .bin .mul (.c (.int .i64 (69621))) (.l 70), none⟩,
           ⟨(.l 72), .bin .rem (.l 71) (.c (.int .i64 (2147483647))), none⟩,
           ⟨(.p 7), .mv (.l 72), none⟩])
         (.seq (.seq (.draw [(⟨(.l 73), .mv (.p 3), none⟩, []),
             (⟨(.l 74), .mv (.p 1), none⟩, [0]),
             (⟨(.l 75), .bin .sub (.l 74) (.c (.int .i64 (1))), none⟩, [0]),
             (⟨(.l 76), .iaddr none 1 (.l 73) (.l 75), none⟩, []),
             (⟨(.l 77), .load 1 false (.l 76), none⟩, []),
             (⟨(.l 78), .mv (.p 7), none⟩, [0, 1, 2, 3, 4]),
             (⟨(.l 79), .mv (.p 1), none⟩, [0, 1, 2, 3, 4, 5]),
             (⟨(.l 80), .bin .rem (.l 78) (.l 79), none⟩, [0, 1, 2, 3, 4]),
             (⟨(.l 81), .bin .neq (.l 77) (.l 80), none⟩, [])])
           (.cond (.l 81)
            (.seq (.region [⟨(.p 2), .mv (.c (.bool false)), none⟩])
             (.ret))
            (.skip)))
          (.seq (.region [⟨(.l 83), .mv (.p 7), none⟩,
             ⟨(.l 84), .mv (.p 1), none⟩,
             ⟨(.l 85), .bin .sub (.l 84) (.c (.int .i64 (1))), none⟩,
             ⟨(.l 86), .call (.c (.fn (.func 19) [] [])) [(.l 83), (.l 85)], none⟩,
             ⟨(.l 82), .mv (.l 86), none⟩,
             ⟨(.l 87), .extract 0 (.l 82), none⟩,
             ⟨(.l 88), .extract 1 (.l 82), none⟩,
             ⟨(.p 8), .mv (.l 87), none⟩,
             ⟨(.p 9), .mv (.l 88), none⟩])
           (.seq (.seq (.region [⟨(.l 89), .mv (.p 9), none⟩,
               ⟨(.l 90), .bin .neq (.l 89) (.c (.int .i64 (0))), none⟩,
               ⟨(.l 91), .mv (.l 90), none⟩,
               ⟨(.l 92), .mv (.p 8), some ((.l 91), false)⟩,
               ⟨(.l 93), .len .sl (.l 92), some ((.l 91), false)⟩,
               ⟨(.l 94), .mv (.p 1), some ((.l 91), false)⟩,
               ⟨(.l 95), .bin .sub (.l 94) (.c (.int .i64 (1))), some ((.l 91), false)⟩,
               ⟨(.l 96), .bin .neq (.l 93) (.l 95), some ((.l 91), false)⟩,
               ⟨(.l 97), .pick (.l 91) (.c (.bool true)) (.l 96), none⟩])
             (.cond (.l 97)
              (.seq (.region [⟨(.p 2), .mv (.c (.bool false)), none⟩])
               (.ret))
              (.skip)))
            (.seq (.seq (.region [⟨(.p 16), .mv (.p 8), none⟩,
                ⟨(.p 17), .len .sl (.p 16), none⟩,
                ⟨(.p 18), .mv (.c (.int .i64 (0))), none⟩])
              (.block 2
               (.loop b9_1)))
             (.seq (.region [⟨(.p 2), .mv (.c (.bool true)), none⟩])
              (.ret)))))))))))))
theorem ft9 : FT 9 = some ⟨130, [0, 1, 4, 5, 6, 7, 9, 10, 11, 12, 13, 14, 15, 45, 46, 47, 98, 99, 100], [.var (.p 2)], b9⟩ := by kernel_rfl

/-- stadion/stadionref01.CheckDraw -/
def b20 : ICode :=
 .seq (.region [⟨(.p 2), .mv (.c (.int .i64 (0))), none⟩])
  (.seq (.seq (.region [⟨(.l 5), .mv (.p 0), none⟩,
      ⟨(.l 6), .bin .lss (.l 5) (.c (.int .i64 (1))), none⟩,
      ⟨(.l 7), .mv (.l 6), none⟩,
      ⟨(.l 8), .mv (.p 0), some ((.l 7), false)⟩,
      ⟨(.l 9), .bin .gtr (.l 8) (.c (.int .i64 (2147483646))), some ((.l 7), false)⟩,
      ⟨(.l 10), .pick (.l 7) (.c (.bool true)) (.l 9), none⟩,
      ⟨(.l 11), .mv (.l 10), none⟩,
      ⟨(.l 12), .mv (.p 1), some ((.l 11), false)⟩,
      ⟨(.l 13), .bin .lss (.l 12) (.c (.int .i64 (0))), some ((.l 11), false)⟩,
      ⟨(.l 14), .pick (.l 11) (.c (.bool true)) (.l 13), none⟩,
      ⟨(.l 15), .mv (.l 14), none⟩,
      ⟨(.l 16), .mv (.p 1), some ((.l 15), false)⟩,
      ⟨(.l 17), .bin .gtr (.l 16) (.c (.int .i64 (256))), some ((.l 15), false)⟩,
      ⟨(.l 18), .pick (.l 15) (.c (.bool true)) (.l 17), none⟩])
    (.cond (.l 18)
     (.seq (.region [⟨(.p 2), .mv (.c (.int .i64 (3))), none⟩])
      (.ret))
     (.skip)))
   (.seq (.region [⟨(.p 2), .mv (.c (.int .i64 (0))), none⟩])
    (.ret)))
theorem ft20 : FT 20 = some ⟨19, [0, 1, 4], [.var (.p 2)], b20⟩ := by kernel_rfl

end Go.Ab.Ch1

/-
  Own work: plain facts of drawn orders: an exchange after the other gives an order of the same elements; its last place and the rest.
-/
namespace Go.Ab

def lcg (key : Int) : Int := 69621 * key % 2147483647
def slot (i : Nat) (key : Int) : Int := lcg key % ((i : Int) + 1)

/-- The exchanges of a drawn order, from place i down. -/
def shuf : Nat → Int → List Int → List Int
  | 0, _, l => l
  | i + 1, key, l => shuf i (lcg key) ((l.set (i + 1) l[(slot (i + 1) key).toNat]!).set (slot (i + 1) key).toNat l[i + 1]!)
theorem shuf_length : ∀ (i : Nat) (key : Int) (l : List Int), (shuf i key l).length = l.length
  | 0, _, _ => rfl
  | i + 1, key, l => by rw [shuf, shuf_length]; simp
def upto (n : Nat) : List Int := (List.range n).map Int.ofNat
theorem upto_length (n : Nat) : (upto n).length = n := by simp [upto]
theorem upto_get {n i : Nat} (h : i < n) : (upto n)[i]? = some (i : Int) := by simp [upto, h]
theorem upto_getD {n i : Nat} (h : i < n) : (upto n)[i]! = (i : Int) := by rw [List.getElem!_eq_getElem?_getD, upto_get h]; rfl

theorem lcg_range {key : Int} : 0 ≤ lcg key ∧ lcg key < 2147483647 := by unfold lcg; omega
theorem slot_range {i : Nat} {key : Int} : 0 ≤ slot i key ∧ slot i key < (i : Int) + 1 := by
  unfold slot
  exact ⟨Int.emod_nonneg _ (by omega), Int.emod_lt_of_pos _ (by omega)⟩
theorem lcg_pos {key : Int} (h0 : 1 ≤ key) (h1 : key ≤ 2147483646) : 1 ≤ lcg key := by
  obtain ⟨h2, _⟩ := lcg_range (key := key)
  rcases Int.lt_or_eq_of_le h2 with h | h
  · omega
  · exfalso
    have hd : (2147483647 : Int) ∣ 69621 * key := by unfold lcg at h; exact Int.dvd_of_emod_eq_zero h.symm
    have hd' : 2147483647 ∣ 69621 * key.toNat := by
      have := Int.natAbs_dvd_natAbs.2 hd
      rw [Int.natAbs_mul] at this
      have e : key.natAbs = key.toNat := by omega
      rw [e] at this
      exact this
    have hc : Nat.Coprime 2147483647 69621 := by decide
    have := hc.dvd_of_dvd_mul_left hd'
    have := Nat.le_of_dvd (by omega) this
    omega

theorem swap_perm (l : List Int) {i j : Nat} (hi : i < l.length) (hj : j < l.length) : ((l.set i l[j]!).set j l[i]!).Perm l := by
  rw [getElem!_pos l i hi, getElem!_pos l j hj]
  exact List.set_set_perm hi hj

theorem shuf_perm : ∀ (i : Nat) (key : Int) (l : List Int), (i < l.length ∨ i = 0) → (shuf i key l).Perm l
  | 0, _, _, _ => List.Perm.refl _
  | i + 1, key, l, h => by
    have := slot_range (i := i + 1) (key := key)
    exact (shuf_perm i (lcg key) _ (by simp; omega)).trans (swap_perm l (by omega) (by omega))

theorem shuf_above : ∀ (i : Nat) (key : Int) (l : List Int) (j : Nat), i < j → (shuf i key l)[j]? = l[j]?
  | 0, _, _, _, _ => rfl
  | i + 1, key, l, j, h => by
    have := slot_range (i := i + 1) (key := key)
    rw [shuf, shuf_above i (lcg key) _ j (by omega), List.getElem?_set_ne (by omega), List.getElem?_set_ne (by omega)]

theorem getD_map {f : Int → Int} {l : List Int} {i : Nat} (h : i < l.length) : (l.map f)[i]! = f l[i]! := by
  rw [getElem!_pos l i h, getElem!_pos (l.map f) i (by simpa using h), List.getElem_map]
theorem getD_append {l m : List Int} {i : Nat} (h : i < l.length) : (l ++ m)[i]! = l[i]! := by
  rw [getElem!_pos l i h, getElem!_pos (l ++ m) i (by simp; omega), List.getElem_append_left h]

theorem shuf_map (f : Int → Int) : ∀ (i : Nat) (key : Int) (l : List Int), (i < l.length ∨ i = 0) → shuf i key (l.map f) = (shuf i key l).map f
  | 0, _, _, _ => rfl
  | i + 1, key, l, h => by
    have := slot_range (i := i + 1) (key := key)
    rw [shuf, shuf, ← shuf_map f i (lcg key) _ (by simp; omega), getD_map (by omega), getD_map (by omega), List.map_set, List.map_set]
theorem shuf_append (m : List Int) : ∀ (i : Nat) (key : Int) (l : List Int), (i < l.length ∨ i = 0) → shuf i key (l ++ m) = shuf i key l ++ m
  | 0, _, _, _ => rfl
  | i + 1, key, l, h => by
    have := slot_range (i := i + 1) (key := key)
    rw [shuf, shuf, ← shuf_append m i (lcg key) _ (by simp; omega), getD_append (by omega), getD_append (by omega), List.set_append_left _ _ (by omega), List.set_append_left _ _ (by simp; omega)]

/-- The first exchange. -/
theorem first_swap (m k : Nat) (hk : k ≤ m + 1) : ((upto (m + 2)).set (m + 1) (upto (m + 2))[k]!).set k (upto (m + 2))[m + 1]! = (upto (m + 1)).map (fun j : Int => if j = (k : Int) then ((m + 1 : Nat) : Int) else j) ++ [(k : Int)] := by
  rw [upto_getD (by omega), upto_getD (by omega)]
  apply List.ext_getElem?
  intro j
  rw [List.getElem?_set, List.getElem?_set]
  by_cases h1 : j < m + 1
  · rw [List.getElem?_append_left (by simp [upto_length]; omega), List.getElem?_map, upto_get h1]
    by_cases h2 : k = j
    · subst h2; rw [if_pos rfl, if_pos (by simp [upto_length]; omega)]; simp
    · rw [if_neg h2, if_neg (by omega), upto_get (by omega)]
      have : ¬ (j : Int) = k := by omega
      simp [this]
  · by_cases h2 : j = m + 1
    · subst h2
      rw [List.getElem?_append_right (by simp [upto_length])]
      simp only [List.length_map, upto_length, Nat.sub_self, List.getElem?_cons_zero, if_true, List.length_set]
      by_cases h3 : k = m + 1
      · subst h3; simp
      · rw [if_neg h3, if_pos (by omega)]
    · rw [List.getElem?_eq_none (l := _ ++ _) (by simp [upto_length]; omega), if_neg (by omega), if_neg (by omega), List.getElem?_eq_none (by simp [upto_length]; omega)]

/-- A drawn order of n = m + 2 elements: the last place; the others. -/
theorem drawn (m : Nat) (key : Int) : shuf (m + 1) key (upto (m + 2)) = (shuf m (lcg key) (upto (m + 1))).map (fun j : Int => if j = slot (m + 1) key then ((m + 1 : Nat) : Int) else j) ++ [slot (m + 1) key] := by
  have h := slot_range (i := m + 1) (key := key)
  have e : (((slot (m + 1) key).toNat : Nat) : Int) = slot (m + 1) key := by omega
  rw [shuf, first_swap m _ (by omega), shuf_append _ _ _ _ (by simp [upto_length]), shuf_map _ _ _ _ (by simp [upto_length]), e]

theorem drawn_nodup (n : Nat) (key : Int) : (shuf (n - 1) key (upto n)).Nodup := by
  rw [(shuf_perm (n - 1) key (upto n) (by rw [upto_length]; omega)).nodup_iff]
  unfold upto
  exact List.Pairwise.map _ (fun a b h e => h (Int.ofNat.inj e)) List.nodup_range
theorem drawn_mem (n : Nat) (key : Int) {x : Int} (h : x ∈ shuf (n - 1) key (upto n)) : 0 ≤ x ∧ x < n := by
  rw [(shuf_perm (n - 1) key (upto n) (by rw [upto_length]; omega)).mem_iff] at h
  simp only [upto, List.mem_map, List.mem_range] at h
  obtain ⟨a, ha, rfl⟩ := h
  exact ⟨Int.natCast_nonneg a, by show (a : Int) < n; omega⟩
end Go.Ab

/-
  Own work: mark.Draw, mark.outside, stadionref01.CheckDraw: what they compute.
-/
namespace Go.Ab.Ch1
open Go.Proofs.Tryz
variable {M : Mach}

theorem w95 (hft : M.FT = FT) (x lo hi : Int) : Run M 95 [.int .i64 x, .int .i64 lo, .int .i64 hi] [] ⟨.bool (decide (x < lo) || decide (hi < x)), [], []⟩ := by
  refine run_of_W (by rw [hft]; exact ft95) (by simp) ?_
  unfold b95
  repeat' first
    | apply W.seq
    | apply SQn
    | apply W.region
    | apply WO.nil
    | apply W.block
    | apply W.ret
    | apply W.exit
    | apply W.skip
    | apply SQr
    | apply SQe
    | apply BQn
    | apply BQr
    | apply BQe
    | (apply BQo; exact rfl)
    | apply LQe
    | apply LQr
    | (apply W.condT; exact rfl)
    | (apply W.condF; exact rfl)
    | (apply W.cond; exact rfl; all_goals intro _)
    | (apply WO.gT; exact rfl)
    | (apply WO.gF; exact rfl)
    | (apply WO.sT; exact rfl)
    | (apply WO.sF; exact rfl)
    | (apply WO.sU; exact rfl)
    | (apply WO.lss; exact rfl; exact rfl; all_goals first | (intro _; exfalso; omega) | intro _)
    | (apply WO.gtr; exact rfl; exact rfl; all_goals first | (intro _; exfalso; omega) | intro _)
    | (apply WO.pkT; exact rfl; exact rfl)
    | (apply WO.pkF; exact rfl; exact rfl)
    | (apply WO.pl; exact rfl; exact rfl)
    | (apply WO.pp; exact rfl; exact rfl)
  all_goals exact ⟨.inr rfl, rfl, _, rfl, by simp [tupA, *]; try omega, by simp [AV.top]⟩

theorem w20 (hft : M.FT = FT) (key n : Int) : Run M 20 [.int .i64 key, .int .i64 n] [] ⟨.int .i64 (if key < 1 ∨ 2147483646 < key ∨ n < 0 ∨ 256 < n then 3 else 0), [], []⟩ := by
  refine run_of_W (by rw [hft]; exact ft20) (by simp) ?_
  unfold b20
  repeat' first
    | apply W.seq
    | apply SQn
    | apply W.region
    | apply WO.nil
    | apply W.block
    | apply W.ret
    | apply W.exit
    | apply W.skip
    | apply SQr
    | apply SQe
    | apply BQn
    | apply BQr
    | apply BQe
    | (apply BQo; exact rfl)
    | apply LQe
    | apply LQr
    | (apply W.condT; exact rfl)
    | (apply W.condF; exact rfl)
    | (apply W.cond; exact rfl; all_goals intro _)
    | (apply WO.gT; exact rfl)
    | (apply WO.gF; exact rfl)
    | (apply WO.sT; exact rfl)
    | (apply WO.sF; exact rfl)
    | (apply WO.sU; exact rfl)
    | (apply WO.lss; exact rfl; exact rfl; all_goals first | (intro _; exfalso; omega) | intro _)
    | (apply WO.gtr; exact rfl; exact rfl; all_goals first | (intro _; exfalso; omega) | intro _)
    | (apply WO.pkT; exact rfl; exact rfl)
    | (apply WO.pkF; exact rfl; exact rfl)
    | (apply WO.pl; exact rfl; exact rfl)
    | (apply WO.pp; exact rfl; exact rfl)
  all_goals refine ⟨.inr rfl, rfl, _, rfl, ?_, by simp [AV.top]⟩
  all_goals first | rw [if_pos (by omega)] | rw [if_neg (by omega)]
  all_goals rfl

theorem body19_0 (n : Nat) (hn : n ≤ 1000000) (a0 a1 a2 a3 a6 a7 : AV) (df : List Nat) {Q : Ex → StW → Prop} : ∀ (r i : Nat), i + r = n → ∀ (l : List Int) (a5 : AV) (lo : List (Nat × AV)) (wr : List Nat), l.length = n →
    (∀ a5 lo wr, Q (.exit 0) ⟨⟨[a0, a1, a2, a3, .sl 0 0 n 1 (some n), a5, a6, a7, .int .i64 n, .int .i64 n], lo, [some (.cells (ints (l.take i ++ (List.range' i r).map Int.ofNat)) 3)], df⟩, wr⟩) →
    W M (.loop b19_0) ⟨⟨[a0, a1, a2, a3, .sl 0 0 n 1 (some n), a5, a6, a7, .int .i64 n, .int .i64 i], lo, [some (.cells (ints l) 3)], df⟩, wr⟩ Q
  | 0, i, hi, l, a5, lo, wr, hl, hQ => by
    obtain rfl : i = n := by omega
    rw [List.range'_zero, List.map_nil, List.append_nil, List.take_of_length_le (by omega)] at hQ
    refine W.loop ?_
    unfold b19_0
    repeat' first
      | apply W.seq
      | apply SQn
      | apply W.region
      | apply WO.nil
      | apply W.block
      | apply W.ret
      | apply W.exit
      | apply W.skip
      | apply SQr
      | apply SQe
      | apply BQn
      | apply BQr
      | apply BQe
      | (apply BQo; exact rfl)
      | apply LQe
      | apply LQr
      | (apply W.condT; exact rfl)
      | (apply W.condF; exact rfl)
      | (apply W.cond; exact rfl; all_goals intro _)
      | (apply WO.lss; exact rfl; exact rfl; all_goals first | (intro _; exfalso; omega) | intro _)
      | (apply WO.add; exact rfl; exact rfl; omega)
      | (apply WO.iav; exact rfl; exact rfl; omega)
      | (apply WO.ias; exact rfl; exact rfl; omega)
      | (apply WO.sta; exact rfl; exact rfl; (first | exact rfl | assumption | exact at_new | (apply at_old; assumption) | (apply at_put; first | assumption | (simp only [put_length]; assumption))); exact fun _ => rfl; (first | omega | (simp only [List.length_set]; omega) | (simp; omega)); exact ⟨rfl, by decide, rfl⟩; exact rfl; case ia => infer_instance)
      | (apply WO.hlv; exact rfl; exact rfl; exact rfl)
      | (apply WO.hpv; exact rfl; exact rfl; exact rfl)
      | (apply WO.hnv; exact rfl; exact rfl; exact rfl)
      | (apply WO.pl; exact rfl; exact rfl)
      | (apply WO.pp; exact rfl; exact rfl)
    · exact hQ _ _ _
  | r + 1, i, hi, l, a5, lo, wr, hl, hQ => by
    refine W.loop ?_
    unfold b19_0
    repeat' first
      | apply W.seq
      | apply SQn
      | apply W.region
      | apply WO.nil
      | apply W.block
      | apply W.ret
      | apply W.exit
      | apply W.skip
      | apply SQr
      | apply SQe
      | apply BQn
      | apply BQr
      | apply BQe
      | (apply BQo; exact rfl)
      | apply LQe
      | apply LQr
      | (apply W.condT; exact rfl)
      | (apply W.condF; exact rfl)
      | (apply W.cond; exact rfl; all_goals intro _)
      | (apply WO.lss; exact rfl; exact rfl; all_goals first | (intro _; exfalso; omega) | intro _)
      | (apply WO.add; exact rfl; exact rfl; omega)
      | (apply WO.iav; exact rfl; exact rfl; omega)
      | (apply WO.ias; exact rfl; exact rfl; omega)
      | (apply WO.sta; exact rfl; exact rfl; (first | exact rfl | assumption | exact at_new | (apply at_old; assumption) | (apply at_put; first | assumption | (simp only [put_length]; assumption))); exact fun _ => rfl; (first | omega | (simp only [List.length_set]; omega) | (simp; omega)); exact ⟨rfl, by decide, rfl⟩; exact rfl; case ia => infer_instance)
      | (apply WO.hlv; exact rfl; exact rfl; exact rfl)
      | (apply WO.hpv; exact rfl; exact rfl; exact rfl)
      | (apply WO.hnv; exact rfl; exact rfl; exact rfl)
      | (apply WO.pl; exact rfl; exact rfl)
      | (apply WO.pp; exact rfl; exact rfl)
    · refine LQn (body19_0 n hn a0 a1 a2 a3 a6 a7 df r (i + 1) (by omega) (l.set i (i : Int)) (.int .i64 i) _ _ (by simp [hl]) fun a5 lo wr => ?_)
      have e : (l.set i (i : Int)).take (i + 1) ++ (List.range' (i + 1) r).map Int.ofNat = l.take i ++ (List.range' i (r + 1)).map Int.ofNat := by
        have t1 : (l.set i (i : Int)).take (i + 1) = l.take i ++ [(i : Int)] := by
          rw [List.take_add_one, List.take_set_of_le (Nat.le_refl _), List.getElem?_set]
          simp [hl]; omega
        rw [t1, List.range'_succ]
        simp
      rw [e]
      exact hQ a5 lo wr

set_option maxHeartbeats 2000000 in
theorem body19_1 (n : Nat) (hn : n ≤ 1000000) (N a2 a3 a5 a8 a9 : AV) (df : List Nat) {Q : Ex → StW → Prop} : ∀ (i : Nat), (i < n ∨ i = 0) → ∀ (key : Int) (l : List Int) (a7 : AV) (lo : List (Nat × AV)) (wr : List Nat), l.length = n → 0 ≤ key → key < 2147483647 →
    (∀ key' a7 lo wr, Q (.exit 2) ⟨⟨[.int .i64 key', N, a2, a3, .sl 0 0 n 1 (some n), a5, .int .i64 0, a7, a8, a9], lo, [some (.cells (ints (shuf i key l)) 3)], df⟩, wr⟩) →
    W M (.loop b19_1) ⟨⟨[.int .i64 key, N, a2, a3, .sl 0 0 n 1 (some n), a5, .int .i64 i, a7, a8, a9], lo, [some (.cells (ints l) 3)], df⟩, wr⟩ Q
  | 0, hi, key, l, a7, lo, wr, hl, hk0, hk1, hQ => by
    refine W.loop ?_
    unfold b19_1
    repeat' first
      | apply W.seq
      | apply SQn
      | apply W.region
      | apply WO.nil
      | apply W.block
      | apply W.ret
      | apply W.exit
      | apply W.skip
      | apply SQr
      | apply SQe
      | apply BQn
      | apply BQr
      | apply BQe
      | (apply BQo; exact rfl)
      | apply LQe
      | apply LQr
      | (apply W.drawro; exact rfl)
      | apply W.draw
      | apply WD.nil
      | (apply WD.gT; exact rfl)
      | (apply WD.gF; exact rfl)
      | (apply WD.sT; exact rfl)
      | (apply WD.sF; exact rfl)
      | (apply WD.sU; exact rfl)
      | (apply WD.pure1; exact rfl)
      | (apply WD.load1; exact rfl; exact rfl; exact rfl)
      | (apply WD.store1; exact rfl; exact rfl; exact rfl)
      | (apply W.condT; exact rfl)
      | (apply W.condF; exact rfl)
      | (apply W.cond; exact rfl; all_goals intro _)
      | (apply WO.gtr; exact rfl; exact rfl; all_goals first | (intro _; exfalso; omega) | intro _)
      | (apply WO.add; exact rfl; exact rfl; omega)
      | (apply WO.sub; exact rfl; exact rfl; omega)
      | (apply WO.mul; exact rfl; exact rfl; omega)
      | (apply WO.remp; exact rfl; exact rfl; omega; intro _ _)
      | (apply WO.remn; exact rfl; exact rfl; omega; intro _ _)
      | (apply WO.rem; exact rfl; exact rfl; omega)
      | (apply WO.iav; exact rfl; exact rfl; omega)
      | (apply WO.ias; exact rfl; exact rfl; omega)
      | (apply WO.lda; exact rfl; exact fun _ => rfl; (first | omega | (simp only [List.length_set]; omega) | (simp; omega)); decide; exact rfl; case ia => infer_instance)
      | (apply WO.lsa; exact rfl; (first | exact rfl | assumption | exact at_new | (apply at_old; assumption) | (apply at_put; first | assumption | (simp only [put_length]; assumption))); exact fun _ => rfl; (first | omega | (simp only [List.length_set]; omega) | (simp; omega)); decide; exact rfl; case ia => infer_instance)
      | (apply WO.sta; exact rfl; exact rfl; (first | exact rfl | assumption | exact at_new | (apply at_old; assumption) | (apply at_put; first | assumption | (simp only [put_length]; assumption))); exact fun _ => rfl; (first | omega | (simp only [List.length_set]; omega) | (simp; omega)); exact ⟨rfl, by decide, rfl⟩; exact rfl; case ia => infer_instance)
      | (apply WO.hlv; exact rfl; exact rfl; exact rfl)
      | (apply WO.hpv; exact rfl; exact rfl; exact rfl)
      | (apply WO.hnv; exact rfl; exact rfl; exact rfl)
      | (apply WO.pl; exact rfl; exact rfl)
      | (apply WO.pp; exact rfl; exact rfl)
    · exact hQ _ _ _ _
  | i + 1, hi, key, l, a7, lo, wr, hl, hk0, hk1, hQ => by
    refine W.loop ?_
    unfold b19_1
    repeat' first
      | apply W.seq
      | apply SQn
      | apply W.region
      | apply WO.nil
      | apply W.block
      | apply W.ret
      | apply W.exit
      | apply W.skip
      | apply SQr
      | apply SQe
      | apply BQn
      | apply BQr
      | apply BQe
      | (apply BQo; exact rfl)
      | apply LQe
      | apply LQr
      | (apply W.drawro; exact rfl)
      | apply W.draw
      | apply WD.nil
      | (apply WD.gT; exact rfl)
      | (apply WD.gF; exact rfl)
      | (apply WD.sT; exact rfl)
      | (apply WD.sF; exact rfl)
      | (apply WD.sU; exact rfl)
      | (apply WD.pure1; exact rfl)
      | (apply WD.load1; exact rfl; exact rfl; exact rfl)
      | (apply WD.store1; exact rfl; exact rfl; exact rfl)
      | (apply W.condT; exact rfl)
      | (apply W.condF; exact rfl)
      | (apply W.cond; exact rfl; all_goals intro _)
      | (apply WO.gtr; exact rfl; exact rfl; all_goals first | (intro _; exfalso; omega) | intro _)
      | (apply WO.add; exact rfl; exact rfl; omega)
      | (apply WO.sub; exact rfl; exact rfl; omega)
      | (apply WO.mul; exact rfl; exact rfl; omega)
      | (apply WO.remp; exact rfl; exact rfl; omega; intro _ _)
      | (apply WO.remn; exact rfl; exact rfl; omega; intro _ _)
      | (apply WO.rem; exact rfl; exact rfl; omega)
      | (apply WO.iav; exact rfl; exact rfl; omega)
      | (apply WO.ias; exact rfl; exact rfl; omega)
      | (apply WO.lda; exact rfl; exact fun _ => rfl; (first | omega | (simp only [List.length_set]; omega) | (simp; omega)); decide; exact rfl; case ia => infer_instance)
      | (apply WO.lsa; exact rfl; (first | exact rfl | assumption | exact at_new | (apply at_old; assumption) | (apply at_put; first | assumption | (simp only [put_length]; assumption))); exact fun _ => rfl; (first | omega | (simp only [List.length_set]; omega) | (simp; omega)); decide; exact rfl; case ia => infer_instance)
      | (apply WO.sta; exact rfl; exact rfl; (first | exact rfl | assumption | exact at_new | (apply at_old; assumption) | (apply at_put; first | assumption | (simp only [put_length]; assumption))); exact fun _ => rfl; (first | omega | (simp only [List.length_set]; omega) | (simp; omega)); exact ⟨rfl, by decide, rfl⟩; exact rfl; case ia => infer_instance)
      | (apply WO.hlv; exact rfl; exact rfl; exact rfl)
      | (apply WO.hpv; exact rfl; exact rfl; exact rfl)
      | (apply WO.hnv; exact rfl; exact rfl; exact rfl)
      | (apply WO.pl; exact rfl; exact rfl)
      | (apply WO.pp; exact rfl; exact rfl)
    · refine LQn ?_
      rw [show ((i + 1 : Nat) : Int) - 1 = (i : Int) from by omega]
      exact body19_1 n hn N a2 a3 a5 a8 a9 df i (by omega) (lcg key) ((l.set (i + 1) l[(slot (i + 1) key).toNat]!).set (slot (i + 1) key).toNat l[i + 1]!) _ _ _ (by simp [hl]) (by assumption) (by assumption) hQ

set_option maxHeartbeats 2000000 in
theorem w19 (hft : M.FT = FT) (h95 : ∀ x lo hi h, M.ext 95 [.int .i64 x, .int .i64 lo, .int .i64 hi] h = some ⟨.bool (decide (x < lo) || decide (hi < x)), h, []⟩) (key : Int) (n : Nat) (hk0 : 1 ≤ key) (hk1 : key ≤ 2147483646) (hn : n ≤ 256) :
    Run M 19 [.int .i64 key, .int .i64 n] [] ⟨.tup [.sl 0 0 n 1 (some n), .int .i64 0], [some (.cells (ints (shuf (n - 1) key (upto n))) 3)], []⟩ := by
  have c1 : ¬ key < 1 := by omega
  have c2 : ¬ 2147483646 < key := by omega
  have c3 : ¬ (n : Int) < 0 := by omega
  have c4 : ¬ 256 < (n : Int) := by omega
  have f1 : ∀ h, M.ext 95 [.int .i64 key, .int .i64 1, .int .i64 2147483646] h = some ⟨.bool false, h, []⟩ := fun h => by rw [h95]; simp [c1, c2]
  have f2 : ∀ h, M.ext 95 [.int .i64 n, .int .i64 0, .int .i64 256] h = some ⟨.bool false, h, []⟩ := fun h => by rw [h95]; simp [c3, c4]
  refine run_of_W (by rw [hft]; exact ft19) (by simp) ?_
  unfold b19
  simp only [List.map_cons, List.map_nil, List.getElem?_cons_zero, List.getElem?_cons_succ, List.getElem?_nil, Option.getD_some, Option.getD_none]
  repeat' first
    | apply W.seq
    | apply SQn
    | apply W.region
    | apply WO.nil
    | apply W.block
    | apply W.ret
    | apply W.exit
    | apply W.skip
    | apply SQr
    | apply SQe
    | apply BQn
    | apply BQr
    | apply BQe
    | (apply BQo; exact rfl)
    | apply LQe
    | apply LQr
    | (apply W.drawro; exact rfl)
    | apply W.draw
    | apply WD.nil
    | (apply WD.gT; exact rfl)
    | (apply WD.gF; exact rfl)
    | (apply WD.sT; exact rfl)
    | (apply WD.sF; exact rfl)
    | (apply WD.sU; exact rfl)
    | (apply WD.pure1; exact rfl)
    | (apply WD.load1; exact rfl; exact rfl; exact rfl)
    | (apply WD.store1; exact rfl; exact rfl; exact rfl)
    | (apply WD.new1; exact rfl)
    | (apply WD.clb; exact rfl; exact rfl; exact rfl; exact rfl; all_goals first | (intro h; exact absurd h (by decide)) | intro _)
    | (apply WD.cl0; exact rfl; exact rfl; exact rfl; exact rfl)
    | (apply WD.cl1; exact rfl; exact rfl; exact rfl; exact rfl)
    | (apply W.condT; exact rfl)
    | (apply W.condF; exact rfl)
    | (apply W.cond; exact rfl; all_goals intro _)
    | (apply WO.gT; exact rfl)
    | (apply WO.gF; exact rfl)
    | (apply WO.sT; exact rfl)
    | (apply WO.sF; exact rfl)
    | (apply WO.sU; exact rfl)
    | (apply WO.gtr; exact rfl; exact rfl; all_goals first | (intro _; exfalso; omega) | intro _)
    | (apply WO.pkT; exact rfl; exact rfl)
    | (apply WO.pkF; exact rfl; exact rfl)
    | (apply WO.add; exact rfl; exact rfl; omega)
    | (apply WO.sub; exact rfl; exact rfl; omega)
    | (apply WO.mul; exact rfl; exact rfl; omega)
    | (apply WO.remp; exact rfl; exact rfl; omega; intro _ _)
    | (apply WO.remn; exact rfl; exact rfl; omega; intro _ _)
    | (apply WO.rem; exact rfl; exact rfl; omega)
    | (apply WO.cll; exact rfl; exact rfl; first | exact f1 _ | exact f2 _)
    | (apply WO.iav; exact rfl; exact rfl; omega)
    | (apply WO.ias; exact rfl; exact rfl; omega)
    | (apply WO.mki; exact rfl; exact rfl; omega)
    | (apply WO.mkb; exact rfl; exact rfl; omega)
    | (apply WO.lda; exact rfl; exact fun _ => rfl; (first | omega | (simp only [List.length_set]; omega) | (simp; omega)); decide; exact rfl; case ia => infer_instance)
    | (apply WO.lsa; exact rfl; (first | exact rfl | assumption | exact at_new | (apply at_old; assumption) | (apply at_put; first | assumption | (simp only [put_length]; assumption))); exact fun _ => rfl; (first | omega | (simp only [List.length_set]; omega) | (simp; omega)); decide; exact rfl; case ia => infer_instance)
    | (apply WO.sta; exact rfl; exact rfl; (first | exact rfl | assumption | exact at_new | (apply at_old; assumption) | (apply at_put; first | assumption | (simp only [put_length]; assumption))); exact fun _ => rfl; (first | omega | (simp only [List.length_set]; omega) | (simp; omega)); exact ⟨rfl, by decide, rfl⟩; exact rfl; case ia => infer_instance)
    | (apply WO.clb; exact rfl; exact rfl; exact rfl; all_goals first | (intro h; exact absurd h (by decide)) | intro _)
    | (apply WO.cll; exact rfl; exact rfl; exact rfl)
    | (apply WO.hlv; exact rfl; exact rfl; exact rfl)
    | (apply WO.hpv; exact rfl; exact rfl; exact rfl)
    | (apply WO.hnv; exact rfl; exact rfl; exact rfl)
    | (apply WO.pl; exact rfl; exact rfl)
    | (apply WO.pp; exact rfl; exact rfl)
  refine body19_0 n (by omega) _ _ _ _ _ _ _ n 0 (by omega) (List.replicate n 0) _ _ _ (by simp) (fun a5 lo wr => ?_)
  have e0 : List.take 0 (List.replicate n (0 : Int)) ++ (List.range' 0 n).map Int.ofNat = upto n := by simp [upto, List.range_eq_range']
  rw [e0]
  repeat' first
    | apply W.seq
    | apply SQn
    | apply W.region
    | apply WO.nil
    | apply W.block
    | apply W.ret
    | apply W.exit
    | apply W.skip
    | apply SQr
    | apply SQe
    | apply BQn
    | apply BQr
    | apply BQe
    | (apply BQo; exact rfl)
    | apply LQe
    | apply LQr
    | (apply W.drawro; exact rfl)
    | apply W.draw
    | apply WD.nil
    | (apply WD.gT; exact rfl)
    | (apply WD.gF; exact rfl)
    | (apply WD.sT; exact rfl)
    | (apply WD.sF; exact rfl)
    | (apply WD.sU; exact rfl)
    | (apply WD.pure1; exact rfl)
    | (apply WD.load1; exact rfl; exact rfl; exact rfl)
    | (apply WD.store1; exact rfl; exact rfl; exact rfl)
    | (apply WD.new1; exact rfl)
    | (apply WD.clb; exact rfl; exact rfl; exact rfl; exact rfl; all_goals first | (intro h; exact absurd h (by decide)) | intro _)
    | (apply WD.cl0; exact rfl; exact rfl; exact rfl; exact rfl)
    | (apply WD.cl1; exact rfl; exact rfl; exact rfl; exact rfl)
    | (apply W.condT; exact rfl)
    | (apply W.condF; exact rfl)
    | (apply W.cond; exact rfl; all_goals intro _)
    | (apply WO.gT; exact rfl)
    | (apply WO.gF; exact rfl)
    | (apply WO.sT; exact rfl)
    | (apply WO.sF; exact rfl)
    | (apply WO.sU; exact rfl)
    | (apply WO.gtr; exact rfl; exact rfl; all_goals first | (intro _; exfalso; omega) | intro _)
    | (apply WO.pkT; exact rfl; exact rfl)
    | (apply WO.pkF; exact rfl; exact rfl)
    | (apply WO.add; exact rfl; exact rfl; omega)
    | (apply WO.sub; exact rfl; exact rfl; omega)
    | (apply WO.mul; exact rfl; exact rfl; omega)
    | (apply WO.remp; exact rfl; exact rfl; omega; intro _ _)
    | (apply WO.remn; exact rfl; exact rfl; omega; intro _ _)
    | (apply WO.rem; exact rfl; exact rfl; omega)
    | (apply WO.iav; exact rfl; exact rfl; omega)
    | (apply WO.ias; exact rfl; exact rfl; omega)
    | (apply WO.mki; exact rfl; exact rfl; omega)
    | (apply WO.mkb; exact rfl; exact rfl; omega)
    | (apply WO.lda; exact rfl; exact fun _ => rfl; (first | omega | (simp only [List.length_set]; omega) | (simp; omega)); decide; exact rfl; case ia => infer_instance)
    | (apply WO.lsa; exact rfl; (first | exact rfl | assumption | exact at_new | (apply at_old; assumption) | (apply at_put; first | assumption | (simp only [put_length]; assumption))); exact fun _ => rfl; (first | omega | (simp only [List.length_set]; omega) | (simp; omega)); decide; exact rfl; case ia => infer_instance)
    | (apply WO.sta; exact rfl; exact rfl; (first | exact rfl | assumption | exact at_new | (apply at_old; assumption) | (apply at_put; first | assumption | (simp only [put_length]; assumption))); exact fun _ => rfl; (first | omega | (simp only [List.length_set]; omega) | (simp; omega)); exact ⟨rfl, by decide, rfl⟩; exact rfl; case ia => infer_instance)
    | (apply WO.clb; exact rfl; exact rfl; exact rfl; all_goals first | (intro h; exact absurd h (by decide)) | intro _)
    | (apply WO.cll; exact rfl; exact rfl; exact rfl)
    | (apply WO.hlv; exact rfl; exact rfl; exact rfl)
    | (apply WO.hpv; exact rfl; exact rfl; exact rfl)
    | (apply WO.hnv; exact rfl; exact rfl; exact rfl)
    | (apply WO.pl; exact rfl; exact rfl)
    | (apply WO.pp; exact rfl; exact rfl)
  rcases Nat.eq_zero_or_pos n with h0 | h0
  · subst h0
    refine W.loop ?_
    unfold b19_1
    repeat' first
      | apply W.seq
      | apply SQn
      | apply W.region
      | apply WO.nil
      | apply W.block
      | apply W.ret
      | apply W.exit
      | apply W.skip
      | apply SQr
      | apply SQe
      | apply BQn
      | apply BQr
      | apply BQe
      | (apply BQo; exact rfl)
      | apply LQe
      | apply LQr
      | (apply W.drawro; exact rfl)
      | apply W.draw
      | apply WD.nil
      | (apply WD.gT; exact rfl)
      | (apply WD.gF; exact rfl)
      | (apply WD.sT; exact rfl)
      | (apply WD.sF; exact rfl)
      | (apply WD.sU; exact rfl)
      | (apply WD.pure1; exact rfl)
      | (apply WD.load1; exact rfl; exact rfl; exact rfl)
      | (apply WD.store1; exact rfl; exact rfl; exact rfl)
      | (apply WD.new1; exact rfl)
      | (apply WD.clb; exact rfl; exact rfl; exact rfl; exact rfl; all_goals first | (intro h; exact absurd h (by decide)) | intro _)
      | (apply WD.cl0; exact rfl; exact rfl; exact rfl; exact rfl)
      | (apply WD.cl1; exact rfl; exact rfl; exact rfl; exact rfl)
      | (apply W.condT; exact rfl)
      | (apply W.condF; exact rfl)
      | (apply W.cond; exact rfl; all_goals intro _)
      | (apply WO.gT; exact rfl)
      | (apply WO.gF; exact rfl)
      | (apply WO.sT; exact rfl)
      | (apply WO.sF; exact rfl)
      | (apply WO.sU; exact rfl)
      | (apply WO.gtr; exact rfl; exact rfl; all_goals first | (intro _; exfalso; omega) | intro _)
      | (apply WO.pkT; exact rfl; exact rfl)
      | (apply WO.pkF; exact rfl; exact rfl)
      | (apply WO.add; exact rfl; exact rfl; omega)
      | (apply WO.sub; exact rfl; exact rfl; omega)
      | (apply WO.mul; exact rfl; exact rfl; omega)
      | (apply WO.remp; exact rfl; exact rfl; omega; intro _ _)
      | (apply WO.remn; exact rfl; exact rfl; omega; intro _ _)
      | (apply WO.rem; exact rfl; exact rfl; omega)
      | (apply WO.iav; exact rfl; exact rfl; omega)
      | (apply WO.ias; exact rfl; exact rfl; omega)
      | (apply WO.mki; exact rfl; exact rfl; omega)
      | (apply WO.mkb; exact rfl; exact rfl; omega)
      | (apply WO.lda; exact rfl; exact fun _ => rfl; (first | omega | (simp only [List.length_set]; omega) | (simp; omega)); decide; exact rfl; case ia => infer_instance)
      | (apply WO.lsa; exact rfl; (first | exact rfl | assumption | exact at_new | (apply at_old; assumption) | (apply at_put; first | assumption | (simp only [put_length]; assumption))); exact fun _ => rfl; (first | omega | (simp only [List.length_set]; omega) | (simp; omega)); decide; exact rfl; case ia => infer_instance)
      | (apply WO.sta; exact rfl; exact rfl; (first | exact rfl | assumption | exact at_new | (apply at_old; assumption) | (apply at_put; first | assumption | (simp only [put_length]; assumption))); exact fun _ => rfl; (first | omega | (simp only [List.length_set]; omega) | (simp; omega)); exact ⟨rfl, by decide, rfl⟩; exact rfl; case ia => infer_instance)
      | (apply WO.clb; exact rfl; exact rfl; exact rfl; all_goals first | (intro h; exact absurd h (by decide)) | intro _)
      | (apply WO.cll; exact rfl; exact rfl; exact rfl)
      | (apply WO.hlv; exact rfl; exact rfl; exact rfl)
      | (apply WO.hpv; exact rfl; exact rfl; exact rfl)
      | (apply WO.hnv; exact rfl; exact rfl; exact rfl)
      | (apply WO.pl; exact rfl; exact rfl)
      | (apply WO.pp; exact rfl; exact rfl)
    · exact ⟨.inr rfl, rfl, _, rfl, rfl, rfl⟩
  · rw [show (n : Int) - 1 = ((n - 1 : Nat) : Int) from by omega]
    refine body19_1 n (by omega) _ _ _ _ _ _ _ (n - 1) (by omega) key (upto n) _ _ _ (by simp [upto]) (by omega) (by omega) (fun key' a7 lo wr => ?_)
    repeat' first
      | apply W.seq
      | apply SQn
      | apply W.region
      | apply WO.nil
      | apply W.block
      | apply W.ret
      | apply W.exit
      | apply W.skip
      | apply SQr
      | apply SQe
      | apply BQn
      | apply BQr
      | apply BQe
      | (apply BQo; exact rfl)
      | apply LQe
      | apply LQr
      | (apply W.drawro; exact rfl)
      | apply W.draw
      | apply WD.nil
      | (apply WD.gT; exact rfl)
      | (apply WD.gF; exact rfl)
      | (apply WD.sT; exact rfl)
      | (apply WD.sF; exact rfl)
      | (apply WD.sU; exact rfl)
      | (apply WD.pure1; exact rfl)
      | (apply WD.load1; exact rfl; exact rfl; exact rfl)
      | (apply WD.store1; exact rfl; exact rfl; exact rfl)
      | (apply WD.new1; exact rfl)
      | (apply WD.clb; exact rfl; exact rfl; exact rfl; exact rfl; all_goals first | (intro h; exact absurd h (by decide)) | intro _)
      | (apply WD.cl0; exact rfl; exact rfl; exact rfl; exact rfl)
      | (apply WD.cl1; exact rfl; exact rfl; exact rfl; exact rfl)
      | (apply W.condT; exact rfl)
      | (apply W.condF; exact rfl)
      | (apply W.cond; exact rfl; all_goals intro _)
      | (apply WO.gT; exact rfl)
      | (apply WO.gF; exact rfl)
      | (apply WO.sT; exact rfl)
      | (apply WO.sF; exact rfl)
      | (apply WO.sU; exact rfl)
      | (apply WO.gtr; exact rfl; exact rfl; all_goals first | (intro _; exfalso; omega) | intro _)
      | (apply WO.pkT; exact rfl; exact rfl)
      | (apply WO.pkF; exact rfl; exact rfl)
      | (apply WO.add; exact rfl; exact rfl; omega)
      | (apply WO.sub; exact rfl; exact rfl; omega)
      | (apply WO.mul; exact rfl; exact rfl; omega)
      | (apply WO.remp; exact rfl; exact rfl; omega; intro _ _)
      | (apply WO.remn; exact rfl; exact rfl; omega; intro _ _)
      | (apply WO.rem; exact rfl; exact rfl; omega)
      | (apply WO.iav; exact rfl; exact rfl; omega)
      | (apply WO.ias; exact rfl; exact rfl; omega)
      | (apply WO.mki; exact rfl; exact rfl; omega)
      | (apply WO.mkb; exact rfl; exact rfl; omega)
      | (apply WO.lda; exact rfl; exact fun _ => rfl; (first | omega | (simp only [List.length_set]; omega) | (simp; omega)); decide; exact rfl; case ia => infer_instance)
      | (apply WO.lsa; exact rfl; (first | exact rfl | assumption | exact at_new | (apply at_old; assumption) | (apply at_put; first | assumption | (simp only [put_length]; assumption))); exact fun _ => rfl; (first | omega | (simp only [List.length_set]; omega) | (simp; omega)); decide; exact rfl; case ia => infer_instance)
      | (apply WO.sta; exact rfl; exact rfl; (first | exact rfl | assumption | exact at_new | (apply at_old; assumption) | (apply at_put; first | assumption | (simp only [put_length]; assumption))); exact fun _ => rfl; (first | omega | (simp only [List.length_set]; omega) | (simp; omega)); exact ⟨rfl, by decide, rfl⟩; exact rfl; case ia => infer_instance)
      | (apply WO.clb; exact rfl; exact rfl; exact rfl; all_goals first | (intro h; exact absurd h (by decide)) | intro _)
      | (apply WO.cll; exact rfl; exact rfl; exact rfl)
      | (apply WO.hlv; exact rfl; exact rfl; exact rfl)
      | (apply WO.hpv; exact rfl; exact rfl; exact rfl)
      | (apply WO.hnv; exact rfl; exact rfl; exact rfl)
      | (apply WO.pl; exact rfl; exact rfl)
      | (apply WO.pp; exact rfl; exact rfl)
    exact ⟨.inr rfl, rfl, _, rfl, rfl, by simp [AV.top, topL]⟩
end Go.Ab.Ch1

/-
  Own work: contracts of chapter 1 as a table.
-/
namespace Go.Ab
open Go.ChangeShapes Go.WideShapes Go.RowKit
variable {P : Program} {gl : Nat → Option AV}

theorem mach_ft {FT : FuncId → Option IFunc} {T : List (Nat × Spec)} : (mach P FT T).FT = FT := rfl
theorem mach_ext {FT : FuncId → Option IFunc} {T : List (Nat × Spec)} : (mach P FT T).ext = extS T := rfl

/-- A law that answers true, as the kit's contract. -/
theorem calls_true {FT : FuncId → Option IFunc} (hs : Seat P gl FT) {T : List (Nat × Spec)} (hT : ExtOK P gl (extS T)) {f : Nat} {xs : List AV} {w : World} (hr : Run (mach P FT T) f xs [] ⟨.bool true, [], []⟩)
    (hgl : ∀ g v, gl g = some v → V bare w v (.pointer (some ⟨g, 0, none⟩))) {as' : List Value} (hv : VL bare w xs as') : Calls P f as'.toArray w fun e w' => e = .returned (.bool true) ∧ Below w.heap.size w w' := by
  obtain ⟨n, hn⟩ := hr
  refine (calls_of_run hs.mix hT hs.ft hn hgl hv).mono fun e w' he => ?_
  obtain ⟨v', h1, ⟨ρ', h2⟩, h3⟩ := he
  cases h2
  exact ⟨h1, below_of h3⟩
end Go.Ab
namespace Go.Ab.Ch1
open Go.Proofs

def s18 : Spec := spec0 [] (.bool true)
theorem s18_ok : SpecOK Tryz.prog gl 18 s18 := spec0_ok gl_top rfl rfl o22
theorem s18_eq (h : Heap) : s18 [] h = some ⟨.bool true, h, []⟩ := rfl

def s95 : Spec := fun
  | [.int .i64 x, .int .i64 lo, .int .i64 hi], h => some ⟨.bool (decide (x < lo) || decide (hi < x)), h, []⟩
  | _, _ => none
theorem s95_ok : SpecOK Tryz.prog gl 95 s95 := by
  intro xs h r hq
  unfold s95 at hq
  split at hq
  · cases hq
    exact ent_run0 seat tab_nil (w95 (M := mach Tryz.prog FT []) mach_ft _ _ _) (FrL.same rfl) rfl (.inl rfl)
  · cases hq

def s20 : Spec := fun
  | [.int .i64 key, .int .i64 n], h => some ⟨.int .i64 (if key < 1 ∨ 2147483646 < key ∨ n < 0 ∨ 256 < n then 3 else 0), h, []⟩
  | _, _ => none
theorem s20_ok : SpecOK Tryz.prog gl 20 s20 := by
  intro xs h r hq
  unfold s20 at hq
  split at hq
  · cases hq
    exact ent_run0 seat tab_nil (w20 (M := mach Tryz.prog FT []) mach_ft _ _) (FrL.same rfl) rfl (.inl rfl)
  · cases hq

def s19 : Spec := fun
  | [.int .i64 key, .int .i64 n], h => if 1 ≤ key ∧ key ≤ 2147483646 ∧ 0 ≤ n ∧ n ≤ 256 then some ⟨.tup [.sl h.length 0 n.toNat 1 (some n.toNat), .int .i64 0], h ++ [some (.cells (ints (shuf (n.toNat - 1) key (upto n.toNat))) 3)], []⟩ else none
  | _, _ => none
def T95 : List (Nat × Spec) := [(95, s95)]
theorem T95_ok : ExtOK Tryz.prog gl (extS T95) := tab_cons s95_ok tab_nil
theorem ints_top (l : List Int) : topL (ints l) = 0 := topL_arr (fun _ => rfl) l
theorem s19_ok : SpecOK Tryz.prog gl 19 s19 := by
  intro xs h r hq
  unfold s19 at hq
  split at hq
  · rename_i h key n
    split at hq
    · rename_i hc
      cases hq
      have hw := w19 (M := mach Tryz.prog FT T95) mach_ft (fun _ _ _ _ => by rw [mach_ext]; rfl) key n.toNat hc.1 hc.2.1 (by omega)
      rw [show ((n.toNat : Nat) : Int) = n from by omega] at hw
      refine ent_run1 seat T95_ok hw (FrL.same rfl) (k := 0) (.tup rfl fun i x y hx hy => ?_) rfl (ints_top _) (.inl rfl) (.inl rfl)
      match i, hx, hy with
      | 0, hx, hy => cases hx; cases hy; exact .sl (i := 0) rfl
      | 1, hx, hy => cases hx; cases hy; exact .same rfl
    · cases hq
  · cases hq
theorem s19_eq (key : Int) (n : Nat) (h : Heap) (h0 : 1 ≤ key) (h1 : key ≤ 2147483646) (h2 : n ≤ 256) : s19 [.int .i64 key, .int .i64 n] h = some ⟨.tup [.sl h.length 0 n 1 (some n), .int .i64 0], h ++ [some (.cells (ints (shuf (n - 1) key (upto n))) 3)], []⟩ := by
  show (if _ then _ else _) = _
  rw [if_pos (by omega)]
  rfl
end Go.Ab.Ch1

/-
  Own work: the resolved code of some functions of chapter 1: first, when.
-/
namespace Go.Ab.Ch1
set_option maxRecDepth 1000000
/-- stadion/mark.when -/
def b97 : ICode :=
 .seq (.region [⟨(.p 2), .mv (.c (.int .i64 (0))), none⟩])
  (.seq (.seq (.region [⟨(.l 5), .mv (.p 0), none⟩])
    (.cond (.l 5)
     (.seq (.region [⟨(.l 6), .mv (.p 1), none⟩,
        ⟨(.p 2), .mv (.l 6), none⟩])
      (.ret))
     (.skip)))
   (.seq (.region [⟨(.p 2), .mv (.c (.int .i64 (0))), none⟩])
    (.ret)))
theorem ft97 : FT 97 = some ⟨7, [0, 1, 4], [.var (.p 2)], b97⟩ := by kernel_rfl

def b96_0 : ICode :=
 .seq (.region [⟨(.l 8), .bin .lss (.p 5) (.p 4), none⟩])
  (.seq (.cond (.l 8)
    (.skip)
    (.exit 0))
   (.seq (.block 1
     (.seq (.region [⟨(.l 9), .iaddr none 1 (.p 3) (.p 5), none⟩,
        ⟨(.l 10), .load 1 false (.l 9), none⟩,
        ⟨(.p 2), .mv (.l 10), none⟩])
      (.seq (.region [⟨(.l 11), .mv (.p 2), none⟩,
         ⟨(.l 12), .bin .neq (.l 11) (.c (.int .i64 (0))), none⟩])
       (.cond (.l 12)
        (.seq (.region [⟨(.l 13), .mv (.p 2), none⟩,
           ⟨(.p 1), .mv (.l 13), none⟩])
         (.ret))
        (.skip)))))
    (.region [⟨(.l 14), .bin .add (.p 5) (.c (.int .i64 (1))), none⟩,
      ⟨(.p 5), .mv (.l 14), none⟩])))
/-- stadion/mark.first -/
def b96 : ICode :=
 .seq (.region [⟨(.p 1), .mv (.c (.int .i64 (0))), none⟩])
  (.seq (.seq (.region [⟨(.p 3), .mv (.p 0), none⟩,
      ⟨(.p 4), .len .sl (.p 3), none⟩,
      ⟨(.p 5), .mv (.c (.int .i64 (0))), none⟩])
    (.block 0
     (.loop b96_0)))
   (.seq (.region [⟨(.p 1), .mv (.c (.int .i64 (0))), none⟩])
    (.ret)))
theorem ft96 : FT 96 = some ⟨15, [0, 2, 4, 5, 6, 7], [.var (.p 1)], b96⟩ := by kernel_rfl

/-- stadion/stadionlaw01.when -/
def b25 : ICode :=
 .seq (.region [⟨(.p 2), .mv (.c (.int .i64 (0))), none⟩])
  (.seq (.seq (.region [⟨(.l 5), .mv (.p 0), none⟩])
    (.cond (.l 5)
     (.seq (.region [⟨(.l 6), .mv (.p 1), none⟩,
        ⟨(.p 2), .mv (.l 6), none⟩])
      (.ret))
     (.skip)))
   (.seq (.region [⟨(.p 2), .mv (.c (.int .i64 (0))), none⟩])
    (.ret)))
theorem ft25 : FT 25 = some ⟨7, [0, 1, 4], [.var (.p 2)], b25⟩ := by kernel_rfl

def b24_0 : ICode :=
 .seq (.seq (.region [⟨(.l 4), .mv (.p 2), none⟩,
     ⟨(.l 5), .mv (.p 0), none⟩,
     ⟨(.l 6), .len .sl (.l 5), none⟩,
     ⟨(.l 7), .bin .lss (.l 4) (.l 6), none⟩])
   (.cond (.l 7)
    (.skip)
    (.exit 0)))
  (.seq (.block 1
    (.seq (.region [⟨(.l 10), .mv (.p 0), none⟩,
       ⟨(.l 11), .mv (.p 2), none⟩,
       ⟨(.l 12), .iaddr none 1 (.l 10) (.l 11), none⟩,
       ⟨(.l 13), .load 1 false (.l 12), none⟩,
       ⟨(.l 14), .bin .neq (.l 13) (.c (.int .i64 (0))), none⟩])
     (.cond (.l 14)
      (.seq (.region [⟨(.l 15), .mv (.p 0), none⟩,
         ⟨(.l 16), .mv (.p 2), none⟩,
         ⟨(.l 17), .iaddr none 1 (.l 15) (.l 16), none⟩,
         ⟨(.l 18), .load 1 false (.l 17), none⟩,
         ⟨(.p 1), .mv (.l 18), none⟩])
       (.ret))
      (.skip))))
   (.region [⟨(.l 8), .mv (.p 2), none⟩,
     ⟨(.l 9), .bin .add (.l 8) (.c (.int .i64 (1))), none⟩,
     ⟨(.p 2), .mv (.l 9), none⟩]))
/-- stadion/stadionlaw01.first -/
def b24 : ICode :=
 .seq (.region [⟨(.p 1), .mv (.c (.int .i64 (0))), none⟩])
  (.seq (.seq (.region [⟨(.p 2), .mv (.c (.int .i64 (0))), none⟩])
    (.block 0
     (.loop b24_0)))
   (.seq (.region [⟨(.p 1), .mv (.c (.int .i64 (0))), none⟩])
    (.ret)))
theorem ft24 : FT 24 = some ⟨19, [0, 2, 3], [.var (.p 1)], b24⟩ := by kernel_rfl

end Go.Ab.Ch1

/-
  Own work: first and when of chapter 1.
-/
namespace Go.Ab.Ch1
variable {inv : InvF} {F : FuncId → Option IFunc}

abbrev mk0 (T : List (Nat × Spec)) (inv : InvF) (F : FuncId → Option IFunc) : Mach := ⟨extS T, inv, F⟩

theorem ext_hd {g : Nat} {sp : Spec} {T : List (Nat × Spec)} {xs : List AV} {h : Heap} : extS ((g, sp) :: T) g xs h = sp xs h := by simp [extS]

def firstNZ : List Int → Int
  | [] => 0
  | e :: r => if e = 0 then firstNZ r else e

def specWhen : Spec := fun
  | [.bool t, .int .i64 e], h => some ⟨.int .i64 (if t then e else 0), h, []⟩
  | _, _ => none
def specFirst : Spec := fun
  | [v], h => match intsAt h v with
    | some l => if l.length < 4611686018427387904 then some ⟨.int .i64 (firstNZ l), h, []⟩ else none
    | none => none
  | _, _ => none

theorem w97 {T : List (Nat × Spec)} (hft : F = FT) (t : Bool) (e : Int) : Run (mk0 T inv F) 97 [.bool t, .int .i64 e] [] ⟨.int .i64 (if t then e else 0), [], []⟩ := by
  refine run_of_W (show F 97 = _ from by rw [hft]; exact ft97) (by simp) ?_
  unfold b97
  simp only [List.map_cons, List.map_nil, List.getElem?_cons_zero, List.getElem?_cons_succ, List.getElem?_nil, Option.getD_some, Option.getD_none]
  cases t
  all_goals
    repeat' first
      | apply W.seq
      | apply SQn
      | apply W.region
      | apply WO.nil
      | apply W.block
      | apply W.ret
      | apply W.exit
      | apply W.skip
      | apply SQr
      | apply SQe
      | apply BQn
      | apply BQr
      | apply BQe
      | (apply BQo; exact rfl)
      | apply LQe
      | apply LQr
      | (apply W.condT; exact rfl)
      | (apply W.condF; exact rfl)
      | (apply W.cond; exact rfl; all_goals intro _)
      | (apply WO.pl; exact rfl; exact rfl)
      | (apply WO.pp; exact rfl; exact rfl)
  all_goals exact ⟨.inr rfl, rfl, _, rfl, rfl, rfl⟩

theorem w25 {T : List (Nat × Spec)} (hft : F = FT) (t : Bool) (e : Int) : Run (mk0 T inv F) 25 [.bool t, .int .i64 e] [] ⟨.int .i64 (if t then e else 0), [], []⟩ := by
  refine run_of_W (show F 25 = _ from by rw [hft]; exact ft25) (by simp) ?_
  unfold b25
  simp only [List.map_cons, List.map_nil, List.getElem?_cons_zero, List.getElem?_cons_succ, List.getElem?_nil, Option.getD_some, Option.getD_none]
  cases t
  all_goals
    repeat' first
      | apply W.seq
      | apply SQn
      | apply W.region
      | apply WO.nil
      | apply W.block
      | apply W.ret
      | apply W.exit
      | apply W.skip
      | apply SQr
      | apply SQe
      | apply BQn
      | apply BQr
      | apply BQe
      | (apply BQo; exact rfl)
      | apply LQe
      | apply LQr
      | (apply W.condT; exact rfl)
      | (apply W.condF; exact rfl)
      | (apply W.cond; exact rfl; all_goals intro _)
      | (apply WO.pl; exact rfl; exact rfl)
      | (apply WO.pp; exact rfl; exact rfl)
  all_goals exact ⟨.inr rfl, rfl, _, rfl, rfl, rfl⟩

theorem firstNZ_drop {l : List Int} {i : Nat} (h : i < l.length) : firstNZ (l.drop i) = if l[i]! = 0 then firstNZ (l.drop (i + 1)) else l[i]! := by
  rw [List.drop_eq_getElem_cons h, getElem!_pos l i h, firstNZ]

theorem body96 {T : List (Nat × Spec)} (l : List Int) (cap : Option Nat) (a0 : AV) (hl : l.length < 4611686018427387904) (hp : Heap) (df : List Nat) {Q : Ex → StW → Prop} : ∀ (r i : Nat), i + r = l.length → ∀ (a1 a2 : AV) (lo : List (Nat × AV)) (wr : List Nat),
    (firstNZ (l.drop i) = 0 → ∀ a2 lo wr, Q (.exit 0) ⟨⟨[a0, a1, a2, .vs (ints l) l.length cap, .int .i64 l.length, .int .i64 l.length], lo, hp, df⟩, wr⟩) →
    (∀ a2 a5 lo wr, Q .ret ⟨⟨[a0, .int .i64 (firstNZ (l.drop i)), a2, .vs (ints l) l.length cap, .int .i64 l.length, a5], lo, hp, df⟩, wr⟩) →
    W (mk0 T inv F) (.loop b96_0) ⟨⟨[a0, a1, a2, .vs (ints l) l.length cap, .int .i64 l.length, .int .i64 i], lo, hp, df⟩, wr⟩ Q
  | 0, i, hi, a1, a2, lo, wr, h1, h2 => by
    obtain rfl : i = l.length := by omega
    refine W.loop ?_
    unfold b96_0
    repeat' first
      | apply W.seq
      | apply SQn
      | apply W.region
      | apply WO.nil
      | apply W.block
      | apply W.ret
      | apply W.exit
      | apply W.skip
      | apply SQr
      | apply SQe
      | apply BQn
      | apply BQr
      | apply BQe
      | (apply BQo; exact rfl)
      | apply LQe
      | apply LQr
      | (apply W.condT; exact rfl)
      | (apply W.condF; exact rfl)
      | (apply W.cond; exact rfl; all_goals intro _)
      | (apply WO.lss; exact rfl; exact rfl; all_goals first | (intro _; exfalso; omega) | intro _)
      | (apply WO.neq; exact rfl; exact rfl; all_goals first | (intro _; exfalso; omega) | intro _)
      | (apply WO.add; exact rfl; exact rfl; omega)
      | (apply WO.iav; exact rfl; exact rfl; omega)
      | (apply WO.ias; exact rfl; exact rfl; omega)
      | (apply WO.lda; exact rfl; exact fun _ => rfl; (first | omega | (simp only [List.length_set]; omega) | (simp; omega)); decide; exact rfl; case ia => infer_instance)
      | (apply WO.lsa; exact rfl; (first | exact rfl | assumption | exact at_new | (apply at_old; assumption) | (apply at_put; first | assumption | (simp only [put_length]; assumption))); exact fun _ => rfl; (first | omega | (simp only [List.length_set]; omega) | (simp; omega)); decide; exact rfl; case ia => infer_instance)
      | (apply WO.sneq; exact rfl; exact rfl; all_goals first | (intro h; exact absurd h (by decide)) | (intro h; exact absurd rfl h) | (intro h; contradiction) | intro _)
      | (apply WO.hlv; exact rfl; exact rfl; exact rfl)
      | (apply WO.hpv; exact rfl; exact rfl; exact rfl)
      | (apply WO.hnv; exact rfl; exact rfl; exact rfl)
      | (apply WO.pl; exact rfl; exact rfl)
      | (apply WO.pp; exact rfl; exact rfl)
    exact h1 (by simp [firstNZ]) _ _ _
  | r + 1, i, hi, a1, a2, lo, wr, h1, h2 => by
    have e := firstNZ_drop (l := l) (i := (i : Int).toNat) (by omega)
    rw [Int.toNat_natCast] at e
    refine W.loop ?_
    unfold b96_0
    repeat' first
      | apply W.seq
      | apply SQn
      | apply W.region
      | apply WO.nil
      | apply W.block
      | apply W.ret
      | apply W.exit
      | apply W.skip
      | apply SQr
      | apply SQe
      | apply BQn
      | apply BQr
      | apply BQe
      | (apply BQo; exact rfl)
      | apply LQe
      | apply LQr
      | (apply W.condT; exact rfl)
      | (apply W.condF; exact rfl)
      | (apply W.cond; exact rfl; all_goals intro _)
      | (apply WO.lss; exact rfl; exact rfl; all_goals first | (intro _; exfalso; omega) | intro _)
      | (apply WO.neq; exact rfl; exact rfl; all_goals first | (intro _; exfalso; omega) | intro _)
      | (apply WO.add; exact rfl; exact rfl; omega)
      | (apply WO.iav; exact rfl; exact rfl; omega)
      | (apply WO.ias; exact rfl; exact rfl; omega)
      | (apply WO.lda; exact rfl; exact fun _ => rfl; (first | omega | (simp only [List.length_set]; omega) | (simp; omega)); decide; exact rfl; case ia => infer_instance)
      | (apply WO.lsa; exact rfl; (first | exact rfl | assumption | exact at_new | (apply at_old; assumption) | (apply at_put; first | assumption | (simp only [put_length]; assumption))); exact fun _ => rfl; (first | omega | (simp only [List.length_set]; omega) | (simp; omega)); decide; exact rfl; case ia => infer_instance)
      | (apply WO.sneq; exact rfl; exact rfl; all_goals first | (intro h; exact absurd h (by decide)) | (intro h; exact absurd rfl h) | (intro h; contradiction) | intro _)
      | (apply WO.hlv; exact rfl; exact rfl; exact rfl)
      | (apply WO.hpv; exact rfl; exact rfl; exact rfl)
      | (apply WO.hnv; exact rfl; exact rfl; exact rfl)
      | (apply WO.pl; exact rfl; exact rfl)
      | (apply WO.pp; exact rfl; exact rfl)
    · rename_i hne
      rw [Int.toNat_natCast] at hne
      rw [if_neg hne] at e
      rw [e] at h2
      exact h2 _ _ _ _
    · rename_i he
      rw [Int.toNat_natCast] at he
      rw [if_pos he] at e
      rw [e] at h1 h2
      exact LQn (body96 l cap a0 hl hp df r (i + 1) (by omega) _ _ _ _ h1 h2)
theorem w96 {T : List (Nat × Spec)} (hft : F = FT) (l : List Int) (cap : Option Nat) (hl : l.length < 4611686018427387904) : Run (mk0 T inv F) 96 [.vs (ints l) l.length cap] [] ⟨.int .i64 (firstNZ l), [], []⟩ := by
  refine run_of_W (show F 96 = _ from by rw [hft]; exact ft96) (by simp) ?_
  unfold b96
  simp only [List.map_cons, List.map_nil, List.getElem?_cons_zero, List.getElem?_cons_succ, List.getElem?_nil, Option.getD_some, Option.getD_none]
  repeat' first
    | apply W.seq
    | apply SQn
    | apply W.region
    | apply WO.nil
    | apply W.block
    | apply W.ret
    | apply W.exit
    | apply W.skip
    | apply SQr
    | apply SQe
    | apply BQn
    | apply BQr
    | apply BQe
    | (apply BQo; exact rfl)
    | apply LQe
    | apply LQr
    | (apply W.condT; exact rfl)
    | (apply W.condF; exact rfl)
    | (apply W.cond; exact rfl; all_goals intro _)
    | (apply WO.pl; exact rfl; exact rfl)
    | (apply WO.pp; exact rfl; exact rfl)
  refine body96 l cap _ hl _ _ l.length 0 (by omega) _ _ _ _ (fun h a2 lo wr => ?_) (fun a2 a5 lo wr => ?_)
  · repeat' first
      | apply W.seq
      | apply SQn
      | apply W.region
      | apply WO.nil
      | apply W.block
      | apply W.ret
      | apply W.exit
      | apply W.skip
      | apply SQr
      | apply SQe
      | apply BQn
      | apply BQr
      | apply BQe
      | (apply BQo; exact rfl)
      | apply LQe
      | apply LQr
      | (apply W.condT; exact rfl)
      | (apply W.condF; exact rfl)
      | (apply W.cond; exact rfl; all_goals intro _)
      | (apply WO.pl; exact rfl; exact rfl)
      | (apply WO.pp; exact rfl; exact rfl)
    exact ⟨.inr rfl, rfl, _, rfl, by rw [List.drop_zero] at h; rw [h]; rfl, rfl⟩
  · repeat' first
      | apply W.seq
      | apply SQn
      | apply W.region
      | apply WO.nil
      | apply W.block
      | apply W.ret
      | apply W.exit
      | apply W.skip
      | apply SQr
      | apply SQe
      | apply BQn
      | apply BQr
      | apply BQe
      | (apply BQo; exact rfl)
      | apply LQe
      | apply LQr
      | (apply W.condT; exact rfl)
      | (apply W.condF; exact rfl)
      | (apply W.cond; exact rfl; all_goals intro _)
      | (apply WO.pl; exact rfl; exact rfl)
      | (apply WO.pp; exact rfl; exact rfl)
    exact ⟨.inr rfl, rfl, _, rfl, rfl, rfl⟩

/-! slices.Index, slices.Contains. -/
theorem body24 {T : List (Nat × Spec)} (l : List Int) (cap : Option Nat) (hl : l.length < 4611686018427387904) (hp : Heap) (df : List Nat) {Q : Ex → StW → Prop} : ∀ (r i : Nat), i + r = l.length → ∀ (a1 : AV) (lo : List (Nat × AV)) (wr : List Nat),
    (firstNZ (l.drop i) = 0 → ∀ lo wr, Q (.exit 0) ⟨⟨[.vs (ints l) l.length cap, a1, .int .i64 l.length], lo, hp, df⟩, wr⟩) →
    (∀ a2 lo wr, Q .ret ⟨⟨[.vs (ints l) l.length cap, .int .i64 (firstNZ (l.drop i)), a2], lo, hp, df⟩, wr⟩) →
    W (mk0 T inv F) (.loop b24_0) ⟨⟨[.vs (ints l) l.length cap, a1, .int .i64 i], lo, hp, df⟩, wr⟩ Q
  | 0, i, hi, a1, lo, wr, h1, h2 => by
    obtain rfl : i = l.length := by omega
    refine W.loop ?_
    unfold b24_0
    repeat' first
      | apply W.seq
      | apply SQn
      | apply W.region
      | apply WO.nil
      | apply W.block
      | apply W.ret
      | apply W.exit
      | apply W.skip
      | apply SQr
      | apply SQe
      | apply BQn
      | apply BQr
      | apply BQe
      | (apply BQo; exact rfl)
      | apply LQe
      | apply LQr
      | (apply W.condT; exact rfl)
      | (apply W.condF; exact rfl)
      | (apply W.cond; exact rfl; all_goals intro _)
      | (apply WO.lss; exact rfl; exact rfl; all_goals first | (intro _; exfalso; omega) | intro _)
      | (apply WO.neq; exact rfl; exact rfl; all_goals first | (intro _; exfalso; omega) | intro _)
      | (apply WO.add; exact rfl; exact rfl; omega)
      | (apply WO.iav; exact rfl; exact rfl; omega)
      | (apply WO.ias; exact rfl; exact rfl; omega)
      | (apply WO.lda; exact rfl; exact fun _ => rfl; (first | omega | (simp only [List.length_set]; omega) | (simp; omega)); decide; exact rfl; case ia => infer_instance)
      | (apply WO.lsa; exact rfl; (first | exact rfl | assumption | exact at_new | (apply at_old; assumption) | (apply at_put; first | assumption | (simp only [put_length]; assumption))); exact fun _ => rfl; (first | omega | (simp only [List.length_set]; omega) | (simp; omega)); decide; exact rfl; case ia => infer_instance)
      | (apply WO.sneq; exact rfl; exact rfl; all_goals first | (intro h; exact absurd h (by decide)) | (intro h; exact absurd rfl h) | (intro h; contradiction) | intro _)
      | (apply WO.hlv; exact rfl; exact rfl; exact rfl)
      | (apply WO.hpv; exact rfl; exact rfl; exact rfl)
      | (apply WO.hnv; exact rfl; exact rfl; exact rfl)
      | (apply WO.pl; exact rfl; exact rfl)
      | (apply WO.pp; exact rfl; exact rfl)
    exact h1 (by simp [firstNZ]) _ _
  | r + 1, i, hi, a1, lo, wr, h1, h2 => by
    have e := firstNZ_drop (l := l) (i := (i : Int).toNat) (by omega)
    rw [Int.toNat_natCast] at e
    refine W.loop ?_
    unfold b24_0
    repeat' first
      | apply W.seq
      | apply SQn
      | apply W.region
      | apply WO.nil
      | apply W.block
      | apply W.ret
      | apply W.exit
      | apply W.skip
      | apply SQr
      | apply SQe
      | apply BQn
      | apply BQr
      | apply BQe
      | (apply BQo; exact rfl)
      | apply LQe
      | apply LQr
      | (apply W.condT; exact rfl)
      | (apply W.condF; exact rfl)
      | (apply W.cond; exact rfl; all_goals intro _)
      | (apply WO.lss; exact rfl; exact rfl; all_goals first | (intro _; exfalso; omega) | intro _)
      | (apply WO.neq; exact rfl; exact rfl; all_goals first | (intro _; exfalso; omega) | intro _)
      | (apply WO.add; exact rfl; exact rfl; omega)
      | (apply WO.iav; exact rfl; exact rfl; omega)
      | (apply WO.ias; exact rfl; exact rfl; omega)
      | (apply WO.lda; exact rfl; exact fun _ => rfl; (first | omega | (simp only [List.length_set]; omega) | (simp; omega)); decide; exact rfl; case ia => infer_instance)
      | (apply WO.lsa; exact rfl; (first | exact rfl | assumption | exact at_new | (apply at_old; assumption) | (apply at_put; first | assumption | (simp only [put_length]; assumption))); exact fun _ => rfl; (first | omega | (simp only [List.length_set]; omega) | (simp; omega)); decide; exact rfl; case ia => infer_instance)
      | (apply WO.sneq; exact rfl; exact rfl; all_goals first | (intro h; exact absurd h (by decide)) | (intro h; exact absurd rfl h) | (intro h; contradiction) | intro _)
      | (apply WO.hlv; exact rfl; exact rfl; exact rfl)
      | (apply WO.hpv; exact rfl; exact rfl; exact rfl)
      | (apply WO.hnv; exact rfl; exact rfl; exact rfl)
      | (apply WO.pl; exact rfl; exact rfl)
      | (apply WO.pp; exact rfl; exact rfl)
    · rename_i hne
      rw [Int.toNat_natCast] at hne
      rw [if_neg hne] at e
      rw [e] at h2
      exact h2 _ _ _
    · rename_i he
      rw [Int.toNat_natCast] at he
      rw [if_pos he] at e
      rw [e] at h1 h2
      exact LQn (body24 l cap hl hp df r (i + 1) (by omega) _ _ _ h1 h2)
theorem w24 {T : List (Nat × Spec)} (hft : F = FT) (l : List Int) (cap : Option Nat) (hl : l.length < 4611686018427387904) : Run (mk0 T inv F) 24 [.vs (ints l) l.length cap] [] ⟨.int .i64 (firstNZ l), [], []⟩ := by
  refine run_of_W (show F 24 = _ from by rw [hft]; exact ft24) (by simp) ?_
  unfold b24
  simp only [List.map_cons, List.map_nil, List.getElem?_cons_zero, List.getElem?_cons_succ, List.getElem?_nil, Option.getD_some, Option.getD_none]
  repeat' first
    | apply W.seq
    | apply SQn
    | apply W.region
    | apply WO.nil
    | apply W.block
    | apply W.ret
    | apply W.exit
    | apply W.skip
    | apply SQr
    | apply SQe
    | apply BQn
    | apply BQr
    | apply BQe
    | (apply BQo; exact rfl)
    | apply LQe
    | apply LQr
    | (apply W.condT; exact rfl)
    | (apply W.condF; exact rfl)
    | (apply W.cond; exact rfl; all_goals intro _)
    | (apply WO.pl; exact rfl; exact rfl)
    | (apply WO.pp; exact rfl; exact rfl)
  refine body24 l cap hl _ _ l.length 0 (by omega) _ _ _ (fun h lo wr => ?_) (fun a2 lo wr => ?_)
  · repeat' first
      | apply W.seq
      | apply SQn
      | apply W.region
      | apply WO.nil
      | apply W.block
      | apply W.ret
      | apply W.exit
      | apply W.skip
      | apply SQr
      | apply SQe
      | apply BQn
      | apply BQr
      | apply BQe
      | (apply BQo; exact rfl)
      | apply LQe
      | apply LQr
      | (apply W.condT; exact rfl)
      | (apply W.condF; exact rfl)
      | (apply W.cond; exact rfl; all_goals intro _)
      | (apply WO.pl; exact rfl; exact rfl)
      | (apply WO.pp; exact rfl; exact rfl)
    exact ⟨.inr rfl, rfl, _, rfl, by rw [List.drop_zero] at h; rw [h]; rfl, rfl⟩
  · repeat' first
      | apply W.seq
      | apply SQn
      | apply W.region
      | apply WO.nil
      | apply W.block
      | apply W.ret
      | apply W.exit
      | apply W.skip
      | apply SQr
      | apply SQe
      | apply BQn
      | apply BQr
      | apply BQe
      | (apply BQo; exact rfl)
      | apply LQe
      | apply LQr
      | (apply W.condT; exact rfl)
      | (apply W.condF; exact rfl)
      | (apply W.cond; exact rfl; all_goals intro _)
      | (apply WO.pl; exact rfl; exact rfl)
      | (apply WO.pp; exact rfl; exact rfl)
    exact ⟨.inr rfl, rfl, _, rfl, rfl, rfl⟩
end Go.Ab.Ch1

/-
  Own work: the contracts of first and when as a table.
-/
namespace Go.Ab.Ch1
open Go.Proofs

theorem mach_eq {T : List (Nat × Spec)} : mach Tryz.prog FT T = mk0 T (invP Tryz.prog) FT := rfl

theorem when97 : SpecOK Tryz.prog gl 97 specWhen := by
  intro xs h r hq
  unfold specWhen at hq
  split at hq
  · cases hq; exact ent_run0 seat tab_nil (w97 (T := []) rfl _ _) (FrL.same rfl) rfl (.inl rfl)
  · cases hq
theorem when25 : SpecOK Tryz.prog gl 25 specWhen := by
  intro xs h r hq
  unfold specWhen at hq
  split at hq
  · cases hq; exact ent_run0 seat tab_nil (w25 (T := []) rfl _ _) (FrL.same rfl) rfl (.inl rfl)
  · cases hq
theorem first_ok {f : Nat} (hw : ∀ (l : List Int) cap, l.length < 4611686018427387904 → Run (mach Tryz.prog FT []) f [.vs (ints l) l.length cap] [] ⟨.int .i64 (firstNZ l), [], []⟩) : SpecOK Tryz.prog gl f specFirst := by
  intro xs h r hq
  unfold specFirst at hq
  split at hq
  · split at hq
    · rename_i l hl
      split at hq
      · rename_i hlen
        cases hq
        obtain ⟨S, cap, hf⟩ := (intsAt_sl hl).fr (fun _ => rfl)
        exact ent_run0 seat tab_nil (hw l cap hlen) (.cons hf .nil) rfl (.inr rfl)
      · cases hq
    · cases hq
  · cases hq
theorem first96 : SpecOK Tryz.prog gl 96 specFirst := first_ok fun l cap h => w96 (T := []) rfl l cap h
theorem first24 : SpecOK Tryz.prog gl 24 specFirst := first_ok fun l cap h => w24 (T := []) rfl l cap h
end Go.Ab.Ch1

/-
  Own work: the resolved code of some functions of chapter 1: shares and the stable sort.
-/
namespace Go.Ab.Ch1
set_option maxRecDepth 1000000
/-- stadion/stadionlaw01.MarkDraws -/
def b3 : ICode :=
 .seq (.region [⟨(.p 3), .box 23 2 (.p 2), none⟩,
    ⟨(.p 4), .mv (.c (.bool false)), none⟩])
  (.seq (.seq (.region [⟨(.l 12), .call (.c (.fn (.func 18) [] [])) [], none⟩,
      ⟨(.l 13), .un .not (.l 12), none⟩,
      ⟨(.l 14), .mv (.l 13), none⟩,
      ⟨(.l 15), .mv (.p 1), some ((.l 14), false)⟩,
      ⟨(.l 16), .len .sl (.l 15), some ((.l 14), false)⟩,
      ⟨(.l 17), .bin .gtr (.l 16) (.c (.int .i64 (260))), some ((.l 14), false)⟩,
      ⟨(.l 18), .pick (.l 14) (.c (.bool true)) (.l 17), none⟩])
    (.cond (.l 18)
     (.seq (.region [⟨(.l 19), .call (.c (.fn (.func 18) [] [])) [], none⟩,
        ⟨(.p 4), .mv (.l 19), none⟩])
      (.ret))
     (.skip)))
   (.seq (.region [⟨(.l 21), .iaddr (some 2) 1 (.p 3) (.c (.int .i64 (0))), none⟩,
      ⟨(.l 22), .load 1 false (.l 21), none⟩,
      ⟨(.l 23), .iaddr (some 2) 1 (.p 3) (.c (.int .i64 (1))), none⟩,
      ⟨(.l 24), .load 1 false (.l 23), none⟩,
      ⟨(.l 25), .call (.c (.fn (.func 19) [] [])) [(.l 22), (.l 24)], none⟩,
      ⟨(.l 20), .mv (.l 25), none⟩,
      ⟨(.l 26), .extract 0 (.l 20), none⟩,
      ⟨(.l 27), .extract 1 (.l 20), none⟩,
      ⟨(.p 5), .mv (.l 26), none⟩,
      ⟨(.p 6), .mv (.l 27), none⟩])
    (.seq (.region [⟨(.l 28), .iaddr (some 2) 1 (.p 3) (.c (.int .i64 (0))), none⟩,
       ⟨(.l 29), .load 1 false (.l 28), none⟩,
       ⟨(.l 30), .iaddr (some 2) 1 (.p 3) (.c (.int .i64 (1))), none⟩,
       ⟨(.l 31), .load 1 false (.l 30), none⟩,
       ⟨(.l 32), .call (.c (.fn (.func 20) [] [])) [(.l 29), (.l 31)], none⟩,
       ⟨(.p 7), .mv (.l 32), none⟩])
     (.seq (.seq (.region [⟨(.l 33), .mv (.p 7), none⟩,
         ⟨(.l 34), .bin .neq (.l 33) (.c (.int .i64 (0))), none⟩,
         ⟨(.l 35), .mv (.l 34), none⟩,
         ⟨(.l 36), .mv (.p 5), some ((.l 35), true)⟩,
         ⟨(.l 37), .mv (.p 6), some ((.l 35), true)⟩,
         ⟨(.l 38), .mv (.p 7), some ((.l 35), true)⟩,
         ⟨(.l 39), .call (.c (.fn (.func 21) [] [])) [(.l 36), (.l 37), (.l 38), (.c (.nilsl))], some ((.l 35), true)⟩,
         ⟨(.l 40), .un .not (.l 39), some ((.l 35), true)⟩,
         ⟨(.l 41), .pick (.l 35) (.l 40) (.c (.bool false)), none⟩,
         ⟨(.l 42), .mv (.l 41), none⟩,
         ⟨(.l 43), .mv (.p 7), some ((.l 42), false)⟩,
         ⟨(.l 44), .bin .eql (.l 43) (.c (.int .i64 (0))), some ((.l 42), false)⟩,
         ⟨(.l 45), .mv (.l 44), some ((.l 42), false)⟩,
         ⟨(.l 46), .mv (.p 5), some ((.l 45), true)⟩,
         ⟨(.l 47), .mv (.p 6), some ((.l 45), true)⟩,
         ⟨(.l 48), .iaddr (some 2) 1 (.p 3) (.c (.int .i64 (0))), some ((.l 45), true)⟩,
         ⟨(.l 49), .load 1 false (.l 48), some ((.l 45), true)⟩,
         ⟨(.l 50), .iaddr (some 2) 1 (.p 3) (.c (.int .i64 (1))), some ((.l 45), true)⟩,
         ⟨(.l 51), .load 1 false (.l 50), some ((.l 45), true)⟩,
         ⟨(.l 52), .call (.c (.fn (.func 22) [] [])) [(.l 49), (.l 51)], some ((.l 45), true)⟩,
         ⟨(.l 53), .call (.c (.fn (.func 21) [] [])) [(.l 46), (.l 47), (.c (.int .i64 (0))), (.l 52)], some ((.l 45), true)⟩,
         ⟨(.l 54), .un .not (.l 53), some ((.l 45), true)⟩,
         ⟨(.l 55), .pick (.l 45) (.l 54) (.c (.bool false)), some ((.l 42), false)⟩,
         ⟨(.l 56), .pick (.l 42) (.c (.bool true)) (.l 55), none⟩])
       (.cond (.l 56)
        (.seq (.region [⟨(.p 4), .mv (.c (.bool false)), none⟩])
         (.ret))
        (.skip)))
      (.seq (.region [⟨(.l 58), .mv (.p 0), none⟩,
         ⟨(.l 59), .mv (.p 1), none⟩,
         ⟨(.l 60), .call (.c (.fn (.func 23) [] [])) [(.l 58), (.l 59)], none⟩,
         ⟨(.l 57), .mv (.l 60), none⟩,
         ⟨(.l 61), .extract 0 (.l 57), none⟩,
         ⟨(.l 62), .extract 1 (.l 57), none⟩,
         ⟨(.p 8), .mv (.l 61), none⟩,
         ⟨(.p 9), .mv (.l 62), none⟩])
       (.seq (.region [⟨(.l 63), .mv (.p 0), none⟩,
          ⟨(.l 64), .bin .lss (.l 63) (.c (.int .i64 (0))), none⟩,
          ⟨(.l 65), .mv (.l 64), none⟩,
          ⟨(.l 66), .mv (.p 0), some ((.l 65), false)⟩,
          ⟨(.l 67), .bin .gtr (.l 66) (.c (.int .i64 (999999999))), some ((.l 65), false)⟩,
          ⟨(.l 68), .pick (.l 65) (.c (.bool true)) (.l 67), none⟩,
          ⟨(.l 69), .call (.c (.fn (.func 25) [] [])) [(.l 68), (.c (.int .i64 (3)))], none⟩,
          ⟨(.l 70), .mv (.p 1), none⟩,
          ⟨(.l 71), .call (.c (.fn (.func 26) [] [])) [(.l 70)], none⟩,
          ⟨(.l 72), .bslice 3 2 1 [.int .i64 (0)] [(0, 1, (.l 69)), (1, 1, (.l 71))], none⟩,
          ⟨(.l 73), .call (.c (.fn (.func 24) [] [])) [(.l 72)], none⟩,
          ⟨(.p 7), .mv (.l 73), none⟩])
        (.seq (.seq (.region [⟨(.l 74), .mv (.p 7), none⟩,
            ⟨(.l 75), .bin .neq (.l 74) (.c (.int .i64 (0))), none⟩])
          (.cond (.l 75)
           (.seq (.region [⟨(.l 76), .mv (.p 8), none⟩,
              ⟨(.l 77), .mv (.p 9), none⟩,
              ⟨(.l 78), .mv (.p 7), none⟩,
              ⟨(.l 79), .call (.c (.fn (.func 21) [] [])) [(.l 76), (.l 77), (.l 78), (.c (.nilsl))], none⟩,
              ⟨(.p 4), .mv (.l 79), none⟩])
            (.ret))
           (.skip)))
         (.seq (.region [⟨(.l 80), .mv (.p 1), none⟩,
            ⟨(.l 81), .len .sl (.l 80), none⟩,
            ⟨(.l 82), .bin .gtr (.l 81) (.c (.int .i64 (40))), none⟩,
            ⟨(.l 83), .mv (.l 82), none⟩,
            ⟨(.l 84), .mv (.p 8), some ((.l 83), false)⟩,
            ⟨(.l 85), .mv (.p 9), some ((.l 83), false)⟩,
            ⟨(.l 86), .mv (.p 0), some ((.l 83), false)⟩,
            ⟨(.l 87), .mv (.p 1), some ((.l 83), false)⟩,
            ⟨(.l 88), .call (.c (.fn (.func 27) [] [])) [(.l 86), (.l 87)], some ((.l 83), false)⟩,
            ⟨(.l 89), .call (.c (.fn (.func 21) [] [])) [(.l 84), (.l 85), (.c (.int .i64 (0))), (.l 88)], some ((.l 83), false)⟩,
            ⟨(.l 90), .pick (.l 83) (.c (.bool true)) (.l 89), none⟩,
            ⟨(.p 4), .mv (.l 90), none⟩])
          (.ret)))))))))
theorem ft3 : FT 3 = some ⟨91, [0, 1, 2, 5, 6, 7, 8, 9, 10, 11], [.var (.p 4)], b3⟩ := by kernel_rfl

/-- stadion/stadionlaw01.list -/
def b21 : ICode :=
 .seq (.region [⟨(.p 4), .mv (.c (.bool false)), none⟩])
  (.seq (.seq (.region [⟨(.l 9), .mv (.p 2), none⟩,
      ⟨(.l 10), .bin .neq (.l 9) (.c (.int .i64 (0))), none⟩])
    (.cond (.l 10)
     (.seq (.region [⟨(.l 11), .mv (.p 0), none⟩,
        ⟨(.l 12), .len .sl (.l 11), none⟩,
        ⟨(.l 13), .bin .eql (.l 12) (.c (.int .i64 (0))), none⟩,
        ⟨(.l 14), .mv (.l 13), none⟩,
        ⟨(.l 15), .mv (.p 1), some ((.l 14), true)⟩,
        ⟨(.l 16), .mv (.p 2), some ((.l 14), true)⟩,
        ⟨(.l 17), .bin .eql (.l 15) (.l 16), some ((.l 14), true)⟩,
        ⟨(.l 18), .pick (.l 14) (.l 17) (.c (.bool false)), none⟩,
        ⟨(.p 4), .mv (.l 18), none⟩])
      (.ret))
     (.skip)))
   (.seq (.region [⟨(.l 19), .mv (.p 1), none⟩,
      ⟨(.l 20), .bin .eql (.l 19) (.c (.int .i64 (0))), none⟩,
      ⟨(.l 21), .mv (.l 20), none⟩,
      ⟨(.l 22), .mv (.p 0), some ((.l 21), true)⟩,
      ⟨(.l 23), .mv (.p 3), some ((.l 21), true)⟩,
      ⟨(.l 24), .call (.c (.fn (.func 93) [] [])) [(.l 22), (.l 23)], some ((.l 21), true)⟩,
      ⟨(.l 25), .pick (.l 21) (.l 24) (.c (.bool false)), none⟩,
      ⟨(.p 4), .mv (.l 25), none⟩])
    (.ret)))
theorem ft21 : FT 21 = some ⟨26, [0, 1, 2, 3, 8], [.var (.p 4)], b21⟩ := by kernel_rfl

def b23_0 : ICode :=
 .seq (.region [⟨(.l 30), .bin .lss (.p 17) (.p 16), none⟩])
  (.seq (.cond (.l 30)
    (.skip)
    (.exit 0))
   (.seq (.block 1
     (.seq (.region [⟨(.l 31), .iaddr none 1 (.p 15) (.p 17), none⟩,
        ⟨(.l 32), .load 1 false (.l 31), none⟩,
        ⟨(.p 8), .mv (.l 32), none⟩])
      (.region [⟨(.l 33), .load 1 false (.p 7), none⟩,
        ⟨(.l 34), .mv (.p 8), none⟩,
        ⟨(.l 35), .bin .add (.l 33) (.l 34), none⟩,
        ⟨.no, .store 1 (.p 7) (.l 35), none⟩])))
    (.region [⟨(.l 36), .bin .add (.p 17) (.c (.int .i64 (1))), none⟩,
      ⟨(.p 17), .mv (.l 36), none⟩])))
def b23_1 : ICode :=
 .seq (.region [⟨(.l 43), .bin .lss (.p 20) (.p 19), none⟩])
  (.seq (.cond (.l 43)
    (.skip)
    (.exit 2))
   (.seq (.block 3
     (.seq (.region [⟨(.l 44), .mv (.p 20), none⟩,
        ⟨(.l 45), .iaddr none 1 (.p 18) (.p 20), none⟩,
        ⟨(.l 46), .load 1 false (.l 45), none⟩,
        ⟨(.p 12), .mv (.l 44), none⟩,
        ⟨(.p 13), .mv (.l 46), none⟩])
      (.seq (.region [⟨(.l 47), .mv (.p 9), none⟩,
         ⟨(.l 48), .load 1 false (.p 2), none⟩,
         ⟨(.l 49), .mv (.p 13), none⟩,
         ⟨(.l 50), .bin .mul (.l 48) (.l 49), none⟩,
         ⟨(.l 51), .load 1 false (.p 7), none⟩,
         ⟨(.l 52), .bin .quo (.l 50) (.l 51), none⟩,
         ⟨(.l 53), .bslice 3 1 1 [.int .i64 (0)] [(0, 1, (.l 52))], none⟩,
         ⟨(.l 54), .append 3 1 8 (.l 47) (.l 53), none⟩,
         ⟨(.l 55), .mv (.p 10), none⟩,
         ⟨(.l 56), .mv (.p 12), none⟩,
         ⟨(.l 57), .bslice 3 1 1 [.int .i64 (0)] [(0, 1, (.l 56))], none⟩,
         ⟨(.l 58), .append 3 1 8 (.l 55) (.l 57), none⟩,
         ⟨(.p 9), .mv (.l 54), none⟩,
         ⟨(.p 10), .mv (.l 58), none⟩])
       (.region [⟨(.l 59), .mv (.p 11), none⟩,
         ⟨(.l 60), .mv (.p 9), none⟩,
         ⟨(.l 61), .mv (.p 12), none⟩,
         ⟨(.l 62), .iaddr none 1 (.l 60) (.l 61), none⟩,
         ⟨(.l 63), .load 1 false (.l 62), none⟩,
         ⟨(.l 64), .bin .sub (.l 59) (.l 63), none⟩,
         ⟨(.p 11), .mv (.l 64), none⟩]))))
    (.region [⟨(.l 65), .bin .add (.p 20) (.c (.int .i64 (1))), none⟩,
      ⟨(.p 20), .mv (.l 65), none⟩])))
def b23_2 : ICode :=
 .seq (.region [⟨(.l 74), .bin .lss (.p 23) (.p 22), none⟩])
  (.seq (.cond (.l 74)
    (.skip)
    (.exit 4))
   (.seq (.block 5
     (.seq (.region [⟨(.l 75), .iaddr none 1 (.p 21) (.p 23), none⟩,
        ⟨(.l 76), .load 1 false (.l 75), none⟩,
        ⟨(.p 14), .mv (.l 76), none⟩])
      (.region [⟨(.l 77), .mv (.p 9), none⟩,
        ⟨(.l 78), .mv (.p 14), none⟩,
        ⟨(.l 79), .iaddr none 1 (.l 77) (.l 78), none⟩,
        ⟨(.l 80), .load 1 false (.l 79), none⟩,
        ⟨(.l 81), .bin .add (.l 80) (.c (.int .i64 (1))), none⟩,
        ⟨(.l 82), .iaddr none 1 (.l 77) (.l 78), none⟩,
        ⟨.no, .store 1 (.l 82) (.l 81), none⟩])))
    (.region [⟨(.l 83), .bin .add (.p 23) (.c (.int .i64 (1))), none⟩,
      ⟨(.p 23), .mv (.l 83), none⟩])))
/-- stadion/mark.Shares -/
def b23 : ICode :=
 .seq (.region [⟨(.p 2), .box 3 1 (.p 0), none⟩,
    ⟨(.p 3), .box 22 1 (.p 1), none⟩,
    ⟨(.p 4), .mv (.c (.nilsl)), none⟩,
    ⟨(.p 5), .mv (.c (.int .i64 (0))), none⟩])
  (.seq (.seq (.draw [(⟨(.l 17), .load 1 false (.p 2), none⟩, []),
      (⟨(.l 18), .call (.c (.fn (.func 95) [] [])) [(.l 17), (.c (.int .i64 (0))), (.c (.int .i64 (999999999)))], none⟩, []),
      (⟨(.l 19), .call (.c (.fn (.func 97) [] [])) [(.l 18), (.c (.int .i64 (3)))], none⟩, []),
      (⟨(.l 20), .load 1 false (.p 3), none⟩, [0, 1, 2]),
      (⟨(.l 21), .call (.c (.fn (.func 98) [] [])) [(.l 20)], none⟩, []),
      (⟨(.l 22), .bslice 25 2 1 [.int .i64 (0)] [(0, 1, (.l 19)), (1, 1, (.l 21))], none⟩, []),
      (⟨(.l 23), .call (.c (.fn (.func 96) [] [])) [(.l 22)], none⟩, []),
      (⟨(.p 6), .mv (.l 23), none⟩, [])])
    (.seq (.region [⟨(.l 24), .mv (.p 6), none⟩,
       ⟨(.l 25), .bin .neq (.l 24) (.c (.int .i64 (0))), none⟩])
     (.cond (.l 25)
      (.seq (.region [⟨(.l 26), .mv (.p 6), none⟩,
         ⟨(.p 4), .mv (.c (.nilsl)), none⟩,
         ⟨(.p 5), .mv (.l 26), none⟩])
       (.ret))
      (.skip))))
   (.seq (.region [⟨(.p 7), .alloc 3 [.int .i64 (0)], none⟩,
      ⟨.no, .store 1 (.p 7) (.c (.int .i64 (0))), none⟩])
    (.seq (.seq (.region [⟨(.p 15), .load 1 false (.p 3), none⟩,
        ⟨(.p 16), .len .sl (.p 15), none⟩,
        ⟨(.p 17), .mv (.c (.int .i64 (0))), none⟩])
      (.block 0
       (.loop b23_0)))
     (.seq (.draw [(⟨(.l 37), .bslice 3 0 1 [.int .i64 (0)] [], none⟩, []),
        (⟨(.l 38), .bslice 3 0 1 [.int .i64 (0)] [], none⟩, [0]),
        (⟨(.l 39), .load 1 false (.p 2), none⟩, [0, 1]),
        (⟨(.p 9), .mv (.l 37), none⟩, [1, 2]),
        (⟨(.p 10), .mv (.l 38), none⟩, [2]),
        (⟨(.p 11), .mv (.l 39), none⟩, [])])
      (.seq (.seq (.region [⟨(.p 18), .load 1 false (.p 3), none⟩,
          ⟨(.p 19), .len .sl (.p 18), none⟩,
          ⟨(.p 20), .mv (.c (.int .i64 (0))), none⟩])
        (.block 2
         (.loop b23_1)))
       (.seq (.region [⟨(.l 66), .mv (.p 10), none⟩,
          ⟨(.l 67), .mkfn (.func 100) [] [(.p 2), (.p 3), (.p 7)], none⟩,
          ⟨(.l 68), .call (.c (.fn (.func 99) [] [])) [(.l 66), (.l 67)], none⟩])
        (.seq (.seq (.region [⟨(.l 69), .mv (.p 10), none⟩,
            ⟨(.l 70), .mv (.p 11), none⟩,
            ⟨(.p 21), .slice .sl 1 (.l 69) none (some (.l 70)) none, none⟩,
            ⟨(.p 22), .len .sl (.p 21), none⟩,
            ⟨(.p 23), .mv (.c (.int .i64 (0))), none⟩])
          (.block 4
           (.loop b23_2)))
         (.seq (.region [⟨(.l 84), .mv (.p 9), none⟩,
            ⟨(.p 4), .mv (.l 84), none⟩,
            ⟨(.p 5), .mv (.c (.int .i64 (0))), none⟩])
          (.ret)))))))))
theorem ft23 : FT 23 = some ⟨85, [0, 1, 2, 3, 4, 5, 6, 7, 9, 10, 11, 12, 13, 14, 16, 27, 28, 29, 40, 41, 42, 71, 72, 73], [.var (.p 4), .var (.p 5)], b23⟩ := by kernel_rfl

def b26_0 : ICode :=
 .seq (.seq (.region [⟨(.l 11), .mv (.p 3), none⟩,
     ⟨(.l 12), .mv (.p 0), none⟩,
     ⟨(.l 13), .len .sl (.l 12), none⟩,
     ⟨(.l 14), .bin .lss (.l 11) (.l 13), none⟩])
   (.cond (.l 14)
    (.skip)
    (.exit 0)))
  (.seq (.block 1
    (.seq (.seq (.region [⟨(.l 17), .mv (.p 0), none⟩,
        ⟨(.l 18), .mv (.p 3), none⟩,
        ⟨(.l 19), .iaddr none 1 (.l 17) (.l 18), none⟩,
        ⟨(.l 20), .load 1 false (.l 19), none⟩,
        ⟨(.l 21), .bin .lss (.l 20) (.c (.int .i64 (0))), none⟩,
        ⟨(.l 22), .mv (.l 21), none⟩,
        ⟨(.l 23), .mv (.p 0), some ((.l 22), false)⟩,
        ⟨(.l 24), .mv (.p 3), some ((.l 22), false)⟩,
        ⟨(.l 25), .iaddr none 1 (.l 23) (.l 24), some ((.l 22), false)⟩,
        ⟨(.l 26), .load 1 false (.l 25), some ((.l 22), false)⟩,
        ⟨(.l 27), .bin .gtr (.l 26) (.c (.int .i64 (999999999))), some ((.l 22), false)⟩,
        ⟨(.l 28), .pick (.l 22) (.c (.bool true)) (.l 27), none⟩])
      (.cond (.l 28)
       (.seq (.region [⟨(.p 1), .mv (.c (.int .i64 (3))), none⟩])
        (.ret))
       (.skip)))
     (.region [⟨(.l 29), .mv (.p 2), none⟩,
       ⟨(.l 30), .mv (.p 0), none⟩,
       ⟨(.l 31), .mv (.p 3), none⟩,
       ⟨(.l 32), .iaddr none 1 (.l 30) (.l 31), none⟩,
       ⟨(.l 33), .load 1 false (.l 32), none⟩,
       ⟨(.l 34), .bin .add (.l 29) (.l 33), none⟩,
       ⟨(.p 2), .mv (.l 34), none⟩])))
   (.region [⟨(.l 15), .mv (.p 3), none⟩,
     ⟨(.l 16), .bin .add (.l 15) (.c (.int .i64 (1))), none⟩,
     ⟨(.p 3), .mv (.l 16), none⟩]))
/-- stadion/stadionref01.CheckWeights -/
def b26 : ICode :=
 .seq (.region [⟨(.p 1), .mv (.c (.int .i64 (0))), none⟩])
  (.seq (.seq (.region [⟨(.l 5), .mv (.p 0), none⟩,
      ⟨(.l 6), .len .sl (.l 5), none⟩,
      ⟨(.l 7), .bin .eql (.l 6) (.c (.int .i64 (0))), none⟩])
    (.cond (.l 7)
     (.seq (.region [⟨(.p 1), .mv (.c (.int .i64 (12))), none⟩])
      (.ret))
     (.skip)))
   (.seq (.seq (.region [⟨(.l 8), .mv (.p 0), none⟩,
       ⟨(.l 9), .len .sl (.l 8), none⟩,
       ⟨(.l 10), .bin .gtr (.l 9) (.c (.int .i64 (256))), none⟩])
     (.cond (.l 10)
      (.seq (.region [⟨(.p 1), .mv (.c (.int .i64 (5))), none⟩])
       (.ret))
      (.skip)))
    (.seq (.region [⟨(.p 2), .mv (.c (.int .i64 (0))), none⟩])
     (.seq (.seq (.region [⟨(.p 3), .mv (.c (.int .i64 (0))), none⟩])
       (.block 0
        (.loop b26_0)))
      (.seq (.seq (.region [⟨(.l 35), .mv (.p 2), none⟩,
          ⟨(.l 36), .bin .eql (.l 35) (.c (.int .i64 (0))), none⟩])
        (.cond (.l 36)
         (.seq (.region [⟨(.p 1), .mv (.c (.int .i64 (6))), none⟩])
          (.ret))
         (.skip)))
       (.seq (.region [⟨(.p 1), .mv (.c (.int .i64 (0))), none⟩])
        (.ret)))))))
theorem ft26 : FT 26 = some ⟨37, [0, 2, 3, 4], [.var (.p 1)], b26⟩ := by kernel_rfl

def b27_0 : ICode :=
 .seq (.seq (.region [⟨(.l 13), .mv (.p 4), none⟩,
     ⟨(.l 14), .mv (.p 1), none⟩,
     ⟨(.l 15), .len .sl (.l 14), none⟩,
     ⟨(.l 16), .bin .lss (.l 13) (.l 15), none⟩])
   (.cond (.l 16)
    (.skip)
    (.exit 0)))
  (.seq (.block 1
    (.region [⟨(.l 19), .mv (.p 3), none⟩,
      ⟨(.l 20), .mv (.p 1), none⟩,
      ⟨(.l 21), .mv (.p 4), none⟩,
      ⟨(.l 22), .iaddr none 1 (.l 20) (.l 21), none⟩,
      ⟨(.l 23), .load 1 false (.l 22), none⟩,
      ⟨(.l 24), .bin .add (.l 19) (.l 23), none⟩,
      ⟨(.p 3), .mv (.l 24), none⟩]))
   (.region [⟨(.l 17), .mv (.p 4), none⟩,
     ⟨(.l 18), .bin .add (.l 17) (.c (.int .i64 (1))), none⟩,
     ⟨(.p 4), .mv (.l 18), none⟩]))
def b27_1 : ICode :=
 .seq (.seq (.region [⟨(.l 32), .mv (.p 8), none⟩,
     ⟨(.l 33), .mv (.p 1), none⟩,
     ⟨(.l 34), .len .sl (.l 33), none⟩,
     ⟨(.l 35), .bin .lss (.l 32) (.l 34), none⟩])
   (.cond (.l 35)
    (.skip)
    (.exit 2)))
  (.seq (.block 3
    (.seq (.region [⟨(.l 38), .mv (.p 5), none⟩,
       ⟨(.l 39), .mv (.p 8), none⟩,
       ⟨(.l 40), .mv (.p 0), none⟩,
       ⟨(.l 41), .mv (.p 1), none⟩,
       ⟨(.l 42), .mv (.p 8), none⟩,
       ⟨(.l 43), .iaddr none 1 (.l 41) (.l 42), none⟩,
       ⟨(.l 44), .load 1 false (.l 43), none⟩,
       ⟨(.l 45), .bin .mul (.l 40) (.l 44), none⟩,
       ⟨(.l 46), .mv (.p 3), none⟩,
       ⟨(.l 47), .bin .quo (.l 45) (.l 46), none⟩,
       ⟨(.l 48), .iaddr none 1 (.l 38) (.l 39), none⟩,
       ⟨.no, .store 1 (.l 48) (.l 47), none⟩])
     (.seq (.region [⟨(.l 49), .mv (.p 6), none⟩,
        ⟨(.l 50), .mv (.p 8), none⟩,
        ⟨(.l 51), .mv (.p 0), none⟩,
        ⟨(.l 52), .mv (.p 1), none⟩,
        ⟨(.l 53), .mv (.p 8), none⟩,
        ⟨(.l 54), .iaddr none 1 (.l 52) (.l 53), none⟩,
        ⟨(.l 55), .load 1 false (.l 54), none⟩,
        ⟨(.l 56), .bin .mul (.l 51) (.l 55), none⟩,
        ⟨(.l 57), .mv (.p 3), none⟩,
        ⟨(.l 58), .bin .rem (.l 56) (.l 57), none⟩,
        ⟨(.l 59), .iaddr none 1 (.l 49) (.l 50), none⟩,
        ⟨.no, .store 1 (.l 59) (.l 58), none⟩])
      (.region [⟨(.l 60), .mv (.p 7), none⟩,
        ⟨(.l 61), .mv (.p 5), none⟩,
        ⟨(.l 62), .mv (.p 8), none⟩,
        ⟨(.l 63), .iaddr none 1 (.l 61) (.l 62), none⟩,
        ⟨(.l 64), .load 1 false (.l 63), none⟩,
        ⟨(.l 65), .bin .sub (.l 60) (.l 64), none⟩,
        ⟨(.p 7), .mv (.l 65), none⟩]))))
   (.region [⟨(.l 36), .mv (.p 8), none⟩,
     ⟨(.l 37), .bin .add (.l 36) (.c (.int .i64 (1))), none⟩,
     ⟨(.p 8), .mv (.l 37), none⟩]))
def b27_2 : ICode :=
 .seq (.seq (.region [⟨(.l 70), .mv (.p 10), none⟩,
     ⟨(.l 71), .mv (.p 1), none⟩,
     ⟨(.l 72), .len .sl (.l 71), none⟩,
     ⟨(.l 73), .bin .lss (.l 70) (.l 72), none⟩])
   (.cond (.l 73)
    (.skip)
    (.exit 6)))
  (.seq (.block 7
    (.seq (.draw [(⟨(.l 76), .mv (.p 6), none⟩, []),
       (⟨(.l 77), .mv (.p 10), none⟩, [0]),
       (⟨(.l 78), .iaddr none 1 (.l 76) (.l 77), none⟩, []),
       (⟨(.l 79), .load 1 false (.l 78), none⟩, []),
       (⟨(.l 80), .mv (.p 6), none⟩, [0, 1, 2, 3]),
       (⟨(.l 81), .mv (.p 9), none⟩, [0, 1, 2, 3, 4]),
       (⟨(.l 82), .iaddr none 1 (.l 80) (.l 81), none⟩, [0, 1, 2, 3]),
       (⟨(.l 83), .load 1 false (.l 82), none⟩, [0, 1, 2, 3]),
       (⟨(.l 84), .bin .gtr (.l 79) (.l 83), none⟩, [])])
     (.cond (.l 84)
      (.region [⟨(.l 85), .mv (.p 10), none⟩,
        ⟨(.p 9), .mv (.l 85), none⟩])
      (.skip))))
   (.region [⟨(.l 74), .mv (.p 10), none⟩,
     ⟨(.l 75), .bin .add (.l 74) (.c (.int .i64 (1))), none⟩,
     ⟨(.p 10), .mv (.l 75), none⟩]))
def b27_3 : ICode :=
 .seq (.seq (.region [⟨(.l 66), .mv (.p 7), none⟩,
     ⟨(.l 67), .bin .gtr (.l 66) (.c (.int .i64 (0))), none⟩])
   (.cond (.l 67)
    (.skip)
    (.exit 4)))
  (.seq (.block 5
    (.seq (.region [⟨(.p 9), .mv (.c (.int .i64 (0))), none⟩])
     (.seq (.seq (.region [⟨(.p 10), .mv (.c (.int .i64 (1))), none⟩])
       (.block 6
        (.loop b27_2)))
      (.seq (.region [⟨(.l 86), .mv (.p 5), none⟩,
         ⟨(.l 87), .mv (.p 9), none⟩,
         ⟨(.l 88), .iaddr none 1 (.l 86) (.l 87), none⟩,
         ⟨(.l 89), .load 1 false (.l 88), none⟩,
         ⟨(.l 90), .bin .add (.l 89) (.c (.int .i64 (1))), none⟩,
         ⟨(.l 91), .iaddr none 1 (.l 86) (.l 87), none⟩,
         ⟨.no, .store 1 (.l 91) (.l 90), none⟩])
       (.region [⟨(.l 92), .mv (.p 6), none⟩,
         ⟨(.l 93), .mv (.p 9), none⟩,
         ⟨(.l 94), .iaddr none 1 (.l 92) (.l 93), none⟩,
         ⟨.no, .store 1 (.l 94) (.c (.int .i64 (-1))), none⟩])))))
   (.region [⟨(.l 68), .mv (.p 7), none⟩,
     ⟨(.l 69), .bin .sub (.l 68) (.c (.int .i64 (1))), none⟩,
     ⟨(.p 7), .mv (.l 69), none⟩]))
/-- stadion/stadionref01.Shares -/
def b27 : ICode :=
 .seq (.region [⟨(.p 2), .mv (.c (.nilsl)), none⟩])
  (.seq (.region [⟨(.p 3), .mv (.c (.int .i64 (0))), none⟩])
   (.seq (.seq (.region [⟨(.p 4), .mv (.c (.int .i64 (0))), none⟩])
     (.block 0
      (.loop b27_0)))
    (.seq (.draw [(⟨(.l 25), .mv (.p 1), none⟩, []),
       (⟨(.l 26), .len .sl (.l 25), none⟩, []),
       (⟨(.l 27), .mkslice 3 1 8 [.int .i64 (0)] (.l 26) (.l 26), none⟩, []),
       (⟨(.l 28), .mv (.p 1), none⟩, [0, 1, 2]),
       (⟨(.l 29), .len .sl (.l 28), none⟩, [0, 1, 2]),
       (⟨(.l 30), .mkslice 3 1 8 [.int .i64 (0)] (.l 29) (.l 29), none⟩, [0, 1, 2]),
       (⟨(.p 5), .mv (.l 27), none⟩, [3, 4, 5]),
       (⟨(.p 6), .mv (.l 30), none⟩, [])])
     (.seq (.region [⟨(.l 31), .mv (.p 0), none⟩,
        ⟨(.p 7), .mv (.l 31), none⟩])
      (.seq (.seq (.region [⟨(.p 8), .mv (.c (.int .i64 (0))), none⟩])
        (.block 2
         (.loop b27_1)))
       (.seq (.block 4
         (.loop b27_3))
        (.seq (.region [⟨(.l 95), .mv (.p 5), none⟩,
           ⟨(.p 2), .mv (.l 95), none⟩])
         (.ret))))))))
theorem ft27 : FT 27 = some ⟨96, [0, 1, 4, 5, 6, 7, 8, 9, 10, 11, 12], [.var (.p 2)], b27⟩ := by kernel_rfl

def b93_0 : ICode :=
 .seq (.seq (.region [⟨(.l 11), .mv (.p 3), none⟩,
     ⟨(.l 12), .mv (.p 0), none⟩,
     ⟨(.l 13), .len .sl (.l 12), none⟩,
     ⟨(.l 14), .bin .lss (.l 11) (.l 13), none⟩])
   (.cond (.l 14)
    (.skip)
    (.exit 0)))
  (.seq (.block 1
    (.seq (.draw [(⟨(.l 17), .mv (.p 0), none⟩, []),
       (⟨(.l 18), .mv (.p 3), none⟩, [0]),
       (⟨(.l 19), .iaddr none 1 (.l 17) (.l 18), none⟩, []),
       (⟨(.l 20), .load 1 false (.l 19), none⟩, []),
       (⟨(.l 21), .mv (.p 1), none⟩, [0, 1, 2, 3]),
       (⟨(.l 22), .mv (.p 3), none⟩, [0, 1, 2, 3, 4]),
       (⟨(.l 23), .iaddr none 1 (.l 21) (.l 22), none⟩, [0, 1, 2, 3]),
       (⟨(.l 24), .load 1 false (.l 23), none⟩, [0, 1, 2, 3]),
       (⟨(.l 25), .bin .neq (.l 20) (.l 24), none⟩, [])])
     (.cond (.l 25)
      (.seq (.region [⟨(.p 2), .mv (.c (.bool false)), none⟩])
       (.ret))
      (.skip))))
   (.region [⟨(.l 15), .mv (.p 3), none⟩,
     ⟨(.l 16), .bin .add (.l 15) (.c (.int .i64 (1))), none⟩,
     ⟨(.p 3), .mv (.l 16), none⟩]))
/-- stadion/stadionref01.SameInts -/
def b93 : ICode :=
 .seq (.region [⟨(.p 2), .mv (.c (.bool false)), none⟩])
  (.seq (.seq (.region [⟨(.l 6), .mv (.p 0), none⟩,
      ⟨(.l 7), .len .sl (.l 6), none⟩,
      ⟨(.l 8), .mv (.p 1), none⟩,
      ⟨(.l 9), .len .sl (.l 8), none⟩,
      ⟨(.l 10), .bin .neq (.l 7) (.l 9), none⟩])
    (.cond (.l 10)
     (.seq (.region [⟨(.p 2), .mv (.c (.bool false)), none⟩])
      (.ret))
     (.skip)))
   (.seq (.seq (.region [⟨(.p 3), .mv (.c (.int .i64 (0))), none⟩])
     (.block 0
      (.loop b93_0)))
    (.seq (.region [⟨(.p 2), .mv (.c (.bool true)), none⟩])
     (.ret))))
theorem ft93 : FT 93 = some ⟨26, [0, 1, 4, 5], [.var (.p 2)], b93⟩ := by kernel_rfl

/-- stadion/mark.checkWeights -/
def b98 : ICode :=
 .seq (.region [⟨(.p 1), .mv (.c (.int .i64 (0))), none⟩])
  (.seq (.region [⟨(.l 5), .mv (.p 0), none⟩,
     ⟨(.l 6), .call (.c (.fn (.func 171) [] [])) [(.l 5), (.c (.fn (.func 172) [] []))], none⟩,
     ⟨(.p 2), .mv (.l 6), none⟩])
   (.seq (.region [⟨(.l 7), .mv (.p 0), none⟩,
      ⟨(.l 8), .call (.c (.fn (.func 171) [] [])) [(.l 7), (.c (.fn (.func 173) [] []))], none⟩,
      ⟨(.p 3), .mv (.l 8), none⟩])
    (.seq (.region [⟨(.l 9), .mv (.p 0), none⟩,
       ⟨(.l 10), .len .sl (.l 9), none⟩,
       ⟨(.l 11), .bin .eql (.l 10) (.c (.int .i64 (0))), none⟩,
       ⟨(.l 12), .call (.c (.fn (.func 97) [] [])) [(.l 11), (.c (.int .i64 (12)))], none⟩,
       ⟨(.l 13), .mv (.p 0), none⟩,
       ⟨(.l 14), .len .sl (.l 13), none⟩,
       ⟨(.l 15), .bin .gtr (.l 14) (.c (.int .i64 (256))), none⟩,
       ⟨(.l 16), .call (.c (.fn (.func 97) [] [])) [(.l 15), (.c (.int .i64 (5)))], none⟩,
       ⟨(.l 17), .mv (.p 2), none⟩,
       ⟨(.l 18), .call (.c (.fn (.func 97) [] [])) [(.l 17), (.c (.int .i64 (3)))], none⟩,
       ⟨(.l 19), .mv (.p 3), none⟩,
       ⟨(.l 20), .un .not (.l 19), none⟩,
       ⟨(.l 21), .call (.c (.fn (.func 97) [] [])) [(.l 20), (.c (.int .i64 (6)))], none⟩,
       ⟨(.l 22), .bslice 25 4 1 [.int .i64 (0)] [(0, 1, (.l 12)), (1, 1, (.l 16)), (2, 1, (.l 18)), (3, 1, (.l 21))], none⟩,
       ⟨(.l 23), .call (.c (.fn (.func 96) [] [])) [(.l 22)], none⟩,
       ⟨(.p 1), .mv (.l 23), none⟩])
     (.ret))))
theorem ft98 : FT 98 = some ⟨24, [0, 2, 3, 4], [.var (.p 1)], b98⟩ := by kernel_rfl

/-- slices.SortStableFunc[[]int,int] -/
def b99 : ICode :=
 .region [⟨(.l 4), .mv (.p 0), none⟩,
   ⟨(.l 5), .mv (.p 0), none⟩,
   ⟨(.l 6), .len .sl (.l 5), none⟩,
   ⟨(.l 7), .mv (.p 1), none⟩,
   ⟨(.l 8), .call (.c (.fn (.func 174) [] [])) [(.l 4), (.l 6), (.l 7)], none⟩]
theorem ft99 : FT 99 = some ⟨9, [0, 1], [], b99⟩ := by kernel_rfl

/-- stadion/mark.Shares$1 -/
def b100 : ICode :=
 .seq (.region [⟨(.p 5), .mv (.c (.int .i64 (0))), none⟩])
  (.seq (.draw [(⟨(.l 8), .load 1 false (.p 2), none⟩, []),
     (⟨(.l 9), .load 1 false (.p 3), none⟩, [0]),
     (⟨(.l 10), .mv (.p 1), none⟩, [0, 1]),
     (⟨(.l 11), .iaddr none 1 (.l 9) (.l 10), none⟩, [0]),
     (⟨(.l 12), .load 1 false (.l 11), none⟩, [0]),
     (⟨(.l 13), .bin .mul (.l 8) (.l 12), none⟩, []),
     (⟨(.l 14), .load 1 false (.p 4), none⟩, [0, 1, 2, 3, 4, 5]),
     (⟨(.l 15), .bin .rem (.l 13) (.l 14), none⟩, []),
     (⟨(.l 16), .load 1 false (.p 2), none⟩, [0, 1, 2, 3, 4, 5, 6, 7]),
     (⟨(.l 17), .load 1 false (.p 3), none⟩, [0, 1, 2, 3, 4, 5, 6, 7, 8]),
     (⟨(.l 18), .mv (.p 0), none⟩, [0, 1, 2, 3, 4, 5, 6, 7, 8, 9]),
     (⟨(.l 19), .iaddr none 1 (.l 17) (.l 18), none⟩, [0, 1, 2, 3, 4, 5, 6, 7, 8]),
     (⟨(.l 20), .load 1 false (.l 19), none⟩, [0, 1, 2, 3, 4, 5, 6, 7, 8]),
     (⟨(.l 21), .bin .mul (.l 16) (.l 20), none⟩, [0, 1, 2, 3, 4, 5, 6, 7]),
     (⟨(.l 22), .load 1 false (.p 4), none⟩, [0, 1, 2, 3, 4, 5, 6, 7, 8, 9, 10, 11, 12, 13]),
     (⟨(.l 23), .bin .rem (.l 21) (.l 22), none⟩, [0, 1, 2, 3, 4, 5, 6, 7]),
     (⟨(.l 24), .bin .sub (.l 15) (.l 23), none⟩, []),
     (⟨(.p 5), .mv (.l 24), none⟩, [])])
   (.ret))
theorem ft100 : FT 100 = some ⟨25, [0, 1, 2, 3, 4, 7], [.var (.p 5)], b100⟩ := by kernel_rfl

/-- slices.ContainsFunc[[]int,int] -/
def b171 : ICode :=
 .seq (.region [⟨(.p 2), .mv (.c (.bool false)), none⟩])
  (.seq (.region [⟨(.l 5), .mv (.p 0), none⟩,
     ⟨(.l 6), .mv (.p 1), none⟩,
     ⟨(.l 7), .call (.c (.fn (.func 220) [] [])) [(.l 5), (.l 6)], none⟩,
     ⟨(.l 8), .bin .geq (.l 7) (.c (.int .i64 (0))), none⟩,
     ⟨(.p 2), .mv (.l 8), none⟩])
   (.ret))
theorem ft171 : FT 171 = some ⟨9, [0, 1, 4], [.var (.p 2)], b171⟩ := by kernel_rfl

/-- stadion/mark.checkWeights$1 -/
def b172 : ICode :=
 .seq (.region [⟨(.p 1), .mv (.c (.bool false)), none⟩])
  (.seq (.region [⟨(.l 3), .mv (.p 0), none⟩,
     ⟨(.l 4), .call (.c (.fn (.func 95) [] [])) [(.l 3), (.c (.int .i64 (0))), (.c (.int .i64 (999999999)))], none⟩,
     ⟨(.p 1), .mv (.l 4), none⟩])
   (.ret))
theorem ft172 : FT 172 = some ⟨5, [0, 2], [.var (.p 1)], b172⟩ := by kernel_rfl

/-- stadion/mark.checkWeights$2 -/
def b173 : ICode :=
 .seq (.region [⟨(.p 1), .mv (.c (.bool false)), none⟩])
  (.seq (.region [⟨(.l 3), .mv (.p 0), none⟩,
     ⟨(.l 4), .bin .neq (.l 3) (.c (.int .i64 (0))), none⟩,
     ⟨(.p 1), .mv (.l 4), none⟩])
   (.ret))
theorem ft173 : FT 173 = some ⟨5, [0, 2], [.var (.p 1)], b173⟩ := by kernel_rfl

def b174_0 : ICode :=
 .seq (.seq (.region [⟨(.l 11), .mv (.p 5), none⟩,
     ⟨(.l 12), .mv (.p 1), none⟩,
     ⟨(.l 13), .bin .leq (.l 11) (.l 12), none⟩])
   (.cond (.l 13)
    (.skip)
    (.exit 0)))
  (.block 1
   (.seq (.region [⟨(.l 14), .mv (.p 0), none⟩,
      ⟨(.l 15), .mv (.p 4), none⟩,
      ⟨(.l 16), .mv (.p 5), none⟩,
      ⟨(.l 17), .mv (.p 2), none⟩,
      ⟨(.l 18), .call (.c (.fn (.func 221) [] [])) [(.l 14), (.l 15), (.l 16), (.l 17)], none⟩])
    (.seq (.region [⟨(.l 19), .mv (.p 5), none⟩,
       ⟨(.p 4), .mv (.l 19), none⟩])
     (.region [⟨(.l 20), .mv (.p 5), none⟩,
       ⟨(.l 21), .mv (.p 3), none⟩,
       ⟨(.l 22), .bin .add (.l 20) (.l 21), none⟩,
       ⟨(.p 5), .mv (.l 22), none⟩]))))
def b174_1 : ICode :=
 .seq (.seq (.region [⟨(.l 33), .mv (.p 5), none⟩,
     ⟨(.l 34), .mv (.p 1), none⟩,
     ⟨(.l 35), .bin .leq (.l 33) (.l 34), none⟩])
   (.cond (.l 35)
    (.skip)
    (.exit 4)))
  (.block 5
   (.seq (.region [⟨(.l 36), .mv (.p 0), none⟩,
      ⟨(.l 37), .mv (.p 4), none⟩,
      ⟨(.l 38), .mv (.p 4), none⟩,
      ⟨(.l 39), .mv (.p 3), none⟩,
      ⟨(.l 40), .bin .add (.l 38) (.l 39), none⟩,
      ⟨(.l 41), .mv (.p 5), none⟩,
      ⟨(.l 42), .mv (.p 2), none⟩,
      ⟨(.l 43), .call (.c (.fn (.func 222) [] [])) [(.l 36), (.l 37), (.l 40), (.l 41), (.l 42)], none⟩])
    (.seq (.region [⟨(.l 44), .mv (.p 5), none⟩,
       ⟨(.p 4), .mv (.l 44), none⟩])
     (.region [⟨(.l 45), .mv (.p 5), none⟩,
       ⟨(.l 46), .mv (.p 3), none⟩,
       ⟨(.l 47), .bin .mul (.c (.int .i64 (2))) (.l 46), none⟩,
       ⟨(.l 48), .bin .add (.l 45) (.l 47), none⟩,
       ⟨(.p 5), .mv (.l 48), none⟩]))))
def b174_2 : ICode :=
 .seq (.seq (.region [⟨(.l 28), .mv (.p 3), none⟩,
     ⟨(.l 29), .mv (.p 1), none⟩,
     ⟨(.l 30), .bin .lss (.l 28) (.l 29), none⟩])
   (.cond (.l 30)
    (.skip)
    (.exit 2)))
  (.block 3
   (.seq (.region [⟨(.l 31), .mv (.p 3), none⟩,
      ⟨(.l 32), .bin .mul (.c (.int .i64 (2))) (.l 31), none⟩,
      ⟨(.p 4), .mv (.c (.int .i64 (0))), none⟩,
      ⟨(.p 5), .mv (.l 32), none⟩])
    (.seq (.block 4
      (.loop b174_1))
     (.seq (.seq (.region [⟨(.l 49), .mv (.p 4), none⟩,
         ⟨(.l 50), .mv (.p 3), none⟩,
         ⟨(.l 51), .bin .add (.l 49) (.l 50), none⟩,
         ⟨(.p 6), .mv (.l 51), none⟩])
       (.seq (.region [⟨(.l 52), .mv (.p 6), none⟩,
          ⟨(.l 53), .mv (.p 1), none⟩,
          ⟨(.l 54), .bin .lss (.l 52) (.l 53), none⟩])
        (.cond (.l 54)
         (.region [⟨(.l 55), .mv (.p 0), none⟩,
           ⟨(.l 56), .mv (.p 4), none⟩,
           ⟨(.l 57), .mv (.p 6), none⟩,
           ⟨(.l 58), .mv (.p 1), none⟩,
           ⟨(.l 59), .mv (.p 2), none⟩,
           ⟨(.l 60), .call (.c (.fn (.func 222) [] [])) [(.l 55), (.l 56), (.l 57), (.l 58), (.l 59)], none⟩])
         (.skip))))
      (.region [⟨(.l 61), .mv (.p 3), none⟩,
        ⟨(.l 62), .bin .mul (.l 61) (.c (.int .i64 (2))), none⟩,
        ⟨(.p 3), .mv (.l 62), none⟩])))))
/-- slices.stableCmpFunc[int] -/
def b174 : ICode :=
 .seq (.region [⟨(.p 3), .mv (.c (.int .i64 (20))), none⟩])
  (.seq (.region [⟨(.l 10), .mv (.p 3), none⟩,
     ⟨(.p 4), .mv (.c (.int .i64 (0))), none⟩,
     ⟨(.p 5), .mv (.l 10), none⟩])
   (.seq (.block 0
     (.loop b174_0))
    (.seq (.region [⟨(.l 23), .mv (.p 0), none⟩,
       ⟨(.l 24), .mv (.p 4), none⟩,
       ⟨(.l 25), .mv (.p 1), none⟩,
       ⟨(.l 26), .mv (.p 2), none⟩,
       ⟨(.l 27), .call (.c (.fn (.func 221) [] [])) [(.l 23), (.l 24), (.l 25), (.l 26)], none⟩])
     (.block 2
      (.loop b174_2)))))
theorem ft174 : FT 174 = some ⟨63, [0, 1, 2, 6, 7, 8, 9], [], b174⟩ := by kernel_rfl

def b221_0 : ICode :=
 .seq (.seq (.draw [(⟨(.l 18), .mv (.p 5), none⟩, []),
     (⟨(.l 19), .mv (.p 1), none⟩, [0]),
     (⟨(.l 20), .bin .gtr (.l 18) (.l 19), none⟩, []),
     (⟨(.l 21), .mv (.l 20), none⟩, []),
     (⟨(.l 22), .mv (.p 3), some ((.l 21), true)⟩, []),
     (⟨(.l 23), .mv (.p 0), some ((.l 21), true)⟩, [4]),
     (⟨(.l 24), .mv (.p 5), some ((.l 21), true)⟩, [4, 5]),
     (⟨(.l 25), .iaddr none 1 (.l 23) (.l 24), some ((.l 21), true)⟩, [4]),
     (⟨(.l 26), .load 1 false (.l 25), some ((.l 21), true)⟩, [4]),
     (⟨(.l 27), .mv (.p 0), some ((.l 21), true)⟩, [4, 5, 6, 7, 8]),
     (⟨(.l 28), .mv (.p 5), some ((.l 21), true)⟩, [4, 5, 6, 7, 8, 9]),
     (⟨(.l 29), .bin .sub (.l 28) (.c (.int .i64 (1))), some ((.l 21), true)⟩, [4, 5, 6, 7, 8, 9]),
     (⟨(.l 30), .iaddr none 1 (.l 27) (.l 29), some ((.l 21), true)⟩, [4, 5, 6, 7, 8]),
     (⟨(.l 31), .load 1 false (.l 30), some ((.l 21), true)⟩, [4, 5, 6, 7, 8]),
     (⟨(.l 32), .call (.l 22) [(.l 26), (.l 31)], some ((.l 21), true)⟩, []),
     (⟨(.l 33), .bin .lss (.l 32) (.c (.int .i64 (0))), some ((.l 21), true)⟩, []),
     (⟨(.l 34), .pick (.l 21) (.l 33) (.c (.bool false)), none⟩, [])])
   (.cond (.l 34)
    (.skip)
    (.exit 2)))
  (.seq (.block 3
    (.draw [(⟨(.l 37), .mv (.p 0), none⟩, []),
      (⟨(.l 38), .mv (.p 5), none⟩, [0]),
      (⟨(.l 39), .mv (.p 0), none⟩, [0, 1]),
      (⟨(.l 40), .mv (.p 5), none⟩, [0, 1, 2]),
      (⟨(.l 41), .bin .sub (.l 40) (.c (.int .i64 (1))), none⟩, [0, 1, 2]),
      (⟨(.l 42), .mv (.p 0), none⟩, [0, 1, 2, 3, 4]),
      (⟨(.l 43), .mv (.p 5), none⟩, [0, 1, 2, 3, 4, 5]),
      (⟨(.l 44), .bin .sub (.l 43) (.c (.int .i64 (1))), none⟩, [0, 1, 2, 3, 4, 5]),
      (⟨(.l 45), .iaddr none 1 (.l 42) (.l 44), none⟩, [0, 1, 2, 3, 4]),
      (⟨(.l 46), .load 1 false (.l 45), none⟩, [0, 1, 2, 3, 4]),
      (⟨(.l 47), .mv (.p 0), none⟩, [0, 1, 2, 3, 4, 5, 6, 7, 8, 9]),
      (⟨(.l 48), .mv (.p 5), none⟩, [0, 1, 2, 3, 4, 5, 6, 7, 8, 9, 10]),
      (⟨(.l 49), .iaddr none 1 (.l 47) (.l 48), none⟩, [0, 1, 2, 3, 4, 5, 6, 7, 8, 9]),
      (⟨(.l 50), .load 1 false (.l 49), none⟩, [0, 1, 2, 3, 4, 5, 6, 7, 8, 9]),
      (⟨(.l 51), .iaddr none 1 (.l 37) (.l 38), none⟩, [2, 3, 4]),
      (⟨.no, .store 1 (.l 51) (.l 46), none⟩, [2, 3, 4]),
      (⟨(.l 52), .iaddr none 1 (.l 39) (.l 41), none⟩, []),
      (⟨.no, .store 1 (.l 52) (.l 50), none⟩, [])]))
   (.region [⟨(.l 35), .mv (.p 5), none⟩,
     ⟨(.l 36), .bin .sub (.l 35) (.c (.int .i64 (1))), none⟩,
     ⟨(.p 5), .mv (.l 36), none⟩]))
def b221_1 : ICode :=
 .seq (.seq (.region [⟨(.l 12), .mv (.p 4), none⟩,
     ⟨(.l 13), .mv (.p 2), none⟩,
     ⟨(.l 14), .bin .lss (.l 12) (.l 13), none⟩])
   (.cond (.l 14)
    (.skip)
    (.exit 0)))
  (.seq (.block 1
    (.seq (.region [⟨(.l 17), .mv (.p 4), none⟩,
       ⟨(.p 5), .mv (.l 17), none⟩])
     (.block 2
      (.loop b221_0))))
   (.region [⟨(.l 15), .mv (.p 4), none⟩,
     ⟨(.l 16), .bin .add (.l 15) (.c (.int .i64 (1))), none⟩,
     ⟨(.p 4), .mv (.l 16), none⟩]))
/-- slices.insertionSortCmpFunc[int] -/
def b221 : ICode :=
 .seq (.region [⟨(.l 10), .mv (.p 1), none⟩,
    ⟨(.l 11), .bin .add (.l 10) (.c (.int .i64 (1))), none⟩,
    ⟨(.p 4), .mv (.l 11), none⟩])
  (.block 0
   (.loop b221_1))
theorem ft221 : FT 221 = some ⟨53, [0, 1, 2, 3, 8, 9], [], b221⟩ := by kernel_rfl

def b222_0 : ICode :=
 .seq (.seq (.region [⟨(.l 31), .mv (.p 5), none⟩,
     ⟨(.l 32), .mv (.p 6), none⟩,
     ⟨(.l 33), .bin .lss (.l 31) (.l 32), none⟩])
   (.cond (.l 33)
    (.skip)
    (.exit 0)))
  (.block 1
   (.seq (.region [⟨(.l 34), .mv (.p 5), none⟩,
      ⟨(.l 35), .mv (.p 6), none⟩,
      ⟨(.l 36), .bin .add (.l 34) (.l 35), none⟩,
      ⟨(.l 37), .convInt .u64 (.l 36), none⟩,
      ⟨(.l 38), .bin .shr (.l 37) (.c (.int .u64 (1))), none⟩,
      ⟨(.l 39), .convInt .i64 (.l 38), none⟩,
      ⟨(.p 7), .mv (.l 39), none⟩])
    (.seq (.draw [(⟨(.l 40), .mv (.p 4), none⟩, []),
       (⟨(.l 41), .mv (.p 0), none⟩, [0]),
       (⟨(.l 42), .mv (.p 7), none⟩, [0, 1]),
       (⟨(.l 43), .iaddr none 1 (.l 41) (.l 42), none⟩, [0]),
       (⟨(.l 44), .load 1 false (.l 43), none⟩, [0]),
       (⟨(.l 45), .mv (.p 0), none⟩, [0, 1, 2, 3, 4]),
       (⟨(.l 46), .mv (.p 1), none⟩, [0, 1, 2, 3, 4, 5]),
       (⟨(.l 47), .iaddr none 1 (.l 45) (.l 46), none⟩, [0, 1, 2, 3, 4]),
       (⟨(.l 48), .load 1 false (.l 47), none⟩, [0, 1, 2, 3, 4]),
       (⟨(.l 49), .call (.l 40) [(.l 44), (.l 48)], none⟩, []),
       (⟨(.l 50), .bin .lss (.l 49) (.c (.int .i64 (0))), none⟩, [])])
     (.cond (.l 50)
      (.region [⟨(.l 51), .mv (.p 7), none⟩,
        ⟨(.l 52), .bin .add (.l 51) (.c (.int .i64 (1))), none⟩,
        ⟨(.p 5), .mv (.l 52), none⟩])
      (.region [⟨(.l 53), .mv (.p 7), none⟩,
        ⟨(.p 6), .mv (.l 53), none⟩])))))
def b222_1 : ICode :=
 .seq (.seq (.region [⟨(.l 55), .mv (.p 8), none⟩,
     ⟨(.l 56), .mv (.p 5), none⟩,
     ⟨(.l 57), .bin .sub (.l 56) (.c (.int .i64 (1))), none⟩,
     ⟨(.l 58), .bin .lss (.l 55) (.l 57), none⟩])
   (.cond (.l 58)
    (.skip)
    (.exit 2)))
  (.seq (.block 3
    (.draw [(⟨(.l 61), .mv (.p 0), none⟩, []),
      (⟨(.l 62), .mv (.p 8), none⟩, [0]),
      (⟨(.l 63), .mv (.p 0), none⟩, [0, 1]),
      (⟨(.l 64), .mv (.p 8), none⟩, [0, 1, 2]),
      (⟨(.l 65), .bin .add (.l 64) (.c (.int .i64 (1))), none⟩, [0, 1, 2]),
      (⟨(.l 66), .mv (.p 0), none⟩, [0, 1, 2, 3, 4]),
      (⟨(.l 67), .mv (.p 8), none⟩, [0, 1, 2, 3, 4, 5]),
      (⟨(.l 68), .bin .add (.l 67) (.c (.int .i64 (1))), none⟩, [0, 1, 2, 3, 4, 5]),
      (⟨(.l 69), .iaddr none 1 (.l 66) (.l 68), none⟩, [0, 1, 2, 3, 4]),
      (⟨(.l 70), .load 1 false (.l 69), none⟩, [0, 1, 2, 3, 4]),
      (⟨(.l 71), .mv (.p 0), none⟩, [0, 1, 2, 3, 4, 5, 6, 7, 8, 9]),
      (⟨(.l 72), .mv (.p 8), none⟩, [0, 1, 2, 3, 4, 5, 6, 7, 8, 9, 10]),
      (⟨(.l 73), .iaddr none 1 (.l 71) (.l 72), none⟩, [0, 1, 2, 3, 4, 5, 6, 7, 8, 9]),
      (⟨(.l 74), .load 1 false (.l 73), none⟩, [0, 1, 2, 3, 4, 5, 6, 7, 8, 9]),
      (⟨(.l 75), .iaddr none 1 (.l 61) (.l 62), none⟩, [2, 3, 4]),
      (⟨.no, .store 1 (.l 75) (.l 70), none⟩, [2, 3, 4]),
      (⟨(.l 76), .iaddr none 1 (.l 63) (.l 65), none⟩, []),
      (⟨.no, .store 1 (.l 76) (.l 74), none⟩, [])]))
   (.region [⟨(.l 59), .mv (.p 8), none⟩,
     ⟨(.l 60), .bin .add (.l 59) (.c (.int .i64 (1))), none⟩,
     ⟨(.p 8), .mv (.l 60), none⟩]))
def b222_2 : ICode :=
 .seq (.seq (.region [⟨(.l 83), .mv (.p 9), none⟩,
     ⟨(.l 84), .mv (.p 10), none⟩,
     ⟨(.l 85), .bin .lss (.l 83) (.l 84), none⟩])
   (.cond (.l 85)
    (.skip)
    (.exit 4)))
  (.block 5
   (.seq (.region [⟨(.l 86), .mv (.p 9), none⟩,
      ⟨(.l 87), .mv (.p 10), none⟩,
      ⟨(.l 88), .bin .add (.l 86) (.l 87), none⟩,
      ⟨(.l 89), .convInt .u64 (.l 88), none⟩,
      ⟨(.l 90), .bin .shr (.l 89) (.c (.int .u64 (1))), none⟩,
      ⟨(.l 91), .convInt .i64 (.l 90), none⟩,
      ⟨(.p 11), .mv (.l 91), none⟩])
    (.seq (.draw [(⟨(.l 92), .mv (.p 4), none⟩, []),
       (⟨(.l 93), .mv (.p 0), none⟩, [0]),
       (⟨(.l 94), .mv (.p 2), none⟩, [0, 1]),
       (⟨(.l 95), .iaddr none 1 (.l 93) (.l 94), none⟩, [0]),
       (⟨(.l 96), .load 1 false (.l 95), none⟩, [0]),
       (⟨(.l 97), .mv (.p 0), none⟩, [0, 1, 2, 3, 4]),
       (⟨(.l 98), .mv (.p 11), none⟩, [0, 1, 2, 3, 4, 5]),
       (⟨(.l 99), .iaddr none 1 (.l 97) (.l 98), none⟩, [0, 1, 2, 3, 4]),
       (⟨(.l 100), .load 1 false (.l 99), none⟩, [0, 1, 2, 3, 4]),
       (⟨(.l 101), .call (.l 92) [(.l 96), (.l 100)], none⟩, []),
       (⟨(.l 102), .bin .lss (.l 101) (.c (.int .i64 (0))), none⟩, []),
       (⟨(.l 103), .un .not (.l 102), none⟩, [])])
     (.cond (.l 103)
      (.region [⟨(.l 104), .mv (.p 11), none⟩,
        ⟨(.l 105), .bin .add (.l 104) (.c (.int .i64 (1))), none⟩,
        ⟨(.p 9), .mv (.l 105), none⟩])
      (.region [⟨(.l 106), .mv (.p 11), none⟩,
        ⟨(.p 10), .mv (.l 106), none⟩])))))
def b222_3 : ICode :=
 .seq (.seq (.region [⟨(.l 108), .mv (.p 12), none⟩,
     ⟨(.l 109), .mv (.p 9), none⟩,
     ⟨(.l 110), .bin .gtr (.l 108) (.l 109), none⟩])
   (.cond (.l 110)
    (.skip)
    (.exit 6)))
  (.seq (.block 7
    (.draw [(⟨(.l 113), .mv (.p 0), none⟩, []),
      (⟨(.l 114), .mv (.p 12), none⟩, [0]),
      (⟨(.l 115), .mv (.p 0), none⟩, [0, 1]),
      (⟨(.l 116), .mv (.p 12), none⟩, [0, 1, 2]),
      (⟨(.l 117), .bin .sub (.l 116) (.c (.int .i64 (1))), none⟩, [0, 1, 2]),
      (⟨(.l 118), .mv (.p 0), none⟩, [0, 1, 2, 3, 4]),
      (⟨(.l 119), .mv (.p 12), none⟩, [0, 1, 2, 3, 4, 5]),
      (⟨(.l 120), .bin .sub (.l 119) (.c (.int .i64 (1))), none⟩, [0, 1, 2, 3, 4, 5]),
      (⟨(.l 121), .iaddr none 1 (.l 118) (.l 120), none⟩, [0, 1, 2, 3, 4]),
      (⟨(.l 122), .load 1 false (.l 121), none⟩, [0, 1, 2, 3, 4]),
      (⟨(.l 123), .mv (.p 0), none⟩, [0, 1, 2, 3, 4, 5, 6, 7, 8, 9]),
      (⟨(.l 124), .mv (.p 12), none⟩, [0, 1, 2, 3, 4, 5, 6, 7, 8, 9, 10]),
      (⟨(.l 125), .iaddr none 1 (.l 123) (.l 124), none⟩, [0, 1, 2, 3, 4, 5, 6, 7, 8, 9]),
      (⟨(.l 126), .load 1 false (.l 125), none⟩, [0, 1, 2, 3, 4, 5, 6, 7, 8, 9]),
      (⟨(.l 127), .iaddr none 1 (.l 113) (.l 114), none⟩, [2, 3, 4]),
      (⟨.no, .store 1 (.l 127) (.l 122), none⟩, [2, 3, 4]),
      (⟨(.l 128), .iaddr none 1 (.l 115) (.l 117), none⟩, []),
      (⟨.no, .store 1 (.l 128) (.l 126), none⟩, [])]))
   (.region [⟨(.l 111), .mv (.p 12), none⟩,
     ⟨(.l 112), .bin .sub (.l 111) (.c (.int .i64 (1))), none⟩,
     ⟨(.p 12), .mv (.l 112), none⟩]))
def b222_4 : ICode :=
 .seq (.seq (.region [⟨(.l 149), .mv (.p 15), none⟩,
     ⟨(.l 150), .mv (.p 16), none⟩,
     ⟨(.l 151), .bin .lss (.l 149) (.l 150), none⟩])
   (.cond (.l 151)
    (.skip)
    (.exit 8)))
  (.block 9
   (.seq (.region [⟨(.l 152), .mv (.p 15), none⟩,
      ⟨(.l 153), .mv (.p 16), none⟩,
      ⟨(.l 154), .bin .add (.l 152) (.l 153), none⟩,
      ⟨(.l 155), .convInt .u64 (.l 154), none⟩,
      ⟨(.l 156), .bin .shr (.l 155) (.c (.int .u64 (1))), none⟩,
      ⟨(.l 157), .convInt .i64 (.l 156), none⟩,
      ⟨(.p 18), .mv (.l 157), none⟩])
    (.seq (.draw [(⟨(.l 158), .mv (.p 4), none⟩, []),
       (⟨(.l 159), .mv (.p 0), none⟩, [0]),
       (⟨(.l 160), .mv (.p 17), none⟩, [0, 1]),
       (⟨(.l 161), .mv (.p 18), none⟩, [0, 1, 2]),
       (⟨(.l 162), .bin .sub (.l 160) (.l 161), none⟩, [0, 1]),
       (⟨(.l 163), .iaddr none 1 (.l 159) (.l 162), none⟩, [0]),
       (⟨(.l 164), .load 1 false (.l 163), none⟩, [0]),
       (⟨(.l 165), .mv (.p 0), none⟩, [0, 1, 2, 3, 4, 5, 6]),
       (⟨(.l 166), .mv (.p 18), none⟩, [0, 1, 2, 3, 4, 5, 6, 7]),
       (⟨(.l 167), .iaddr none 1 (.l 165) (.l 166), none⟩, [0, 1, 2, 3, 4, 5, 6]),
       (⟨(.l 168), .load 1 false (.l 167), none⟩, [0, 1, 2, 3, 4, 5, 6]),
       (⟨(.l 169), .call (.l 158) [(.l 164), (.l 168)], none⟩, []),
       (⟨(.l 170), .bin .lss (.l 169) (.c (.int .i64 (0))), none⟩, []),
       (⟨(.l 171), .un .not (.l 170), none⟩, [])])
     (.cond (.l 171)
      (.region [⟨(.l 172), .mv (.p 18), none⟩,
        ⟨(.l 173), .bin .add (.l 172) (.c (.int .i64 (1))), none⟩,
        ⟨(.p 15), .mv (.l 173), none⟩])
      (.region [⟨(.l 174), .mv (.p 18), none⟩,
        ⟨(.p 16), .mv (.l 174), none⟩])))))
/-- slices.symMergeCmpFunc[int] -/
def b222 : ICode :=
 .seq (.seq (.region [⟨(.l 25), .mv (.p 2), none⟩,
     ⟨(.l 26), .mv (.p 1), none⟩,
     ⟨(.l 27), .bin .sub (.l 25) (.l 26), none⟩,
     ⟨(.l 28), .bin .eql (.l 27) (.c (.int .i64 (1))), none⟩])
   (.cond (.l 28)
    (.seq (.region [⟨(.l 29), .mv (.p 2), none⟩,
       ⟨(.p 5), .mv (.l 29), none⟩])
     (.seq (.region [⟨(.l 30), .mv (.p 3), none⟩,
        ⟨(.p 6), .mv (.l 30), none⟩])
      (.seq (.block 0
        (.loop b222_0))
       (.seq (.seq (.region [⟨(.l 54), .mv (.p 1), none⟩,
           ⟨(.p 8), .mv (.l 54), none⟩])
         (.block 2
          (.loop b222_1)))
        (.ret)))))
    (.skip)))
  (.seq (.seq (.region [⟨(.l 77), .mv (.p 3), none⟩,
      ⟨(.l 78), .mv (.p 2), none⟩,
      ⟨(.l 79), .bin .sub (.l 77) (.l 78), none⟩,
      ⟨(.l 80), .bin .eql (.l 79) (.c (.int .i64 (1))), none⟩])
    (.cond (.l 80)
     (.seq (.region [⟨(.l 81), .mv (.p 1), none⟩,
        ⟨(.p 9), .mv (.l 81), none⟩])
      (.seq (.region [⟨(.l 82), .mv (.p 2), none⟩,
         ⟨(.p 10), .mv (.l 82), none⟩])
       (.seq (.block 4
         (.loop b222_2))
        (.seq (.seq (.region [⟨(.l 107), .mv (.p 2), none⟩,
            ⟨(.p 12), .mv (.l 107), none⟩])
          (.block 6
           (.loop b222_3)))
         (.ret)))))
     (.skip)))
   (.seq (.region [⟨(.l 129), .mv (.p 1), none⟩,
      ⟨(.l 130), .mv (.p 3), none⟩,
      ⟨(.l 131), .bin .add (.l 129) (.l 130), none⟩,
      ⟨(.l 132), .convInt .u64 (.l 131), none⟩,
      ⟨(.l 133), .bin .shr (.l 132) (.c (.int .u64 (1))), none⟩,
      ⟨(.l 134), .convInt .i64 (.l 133), none⟩,
      ⟨(.p 13), .mv (.l 134), none⟩])
    (.seq (.region [⟨(.l 135), .mv (.p 13), none⟩,
       ⟨(.l 136), .mv (.p 2), none⟩,
       ⟨(.l 137), .bin .add (.l 135) (.l 136), none⟩,
       ⟨(.p 14), .mv (.l 137), none⟩])
     (.seq (.region [⟨(.p 15), .mv (.c (.int .i64 (0))), none⟩,
        ⟨(.p 16), .mv (.c (.int .i64 (0))), none⟩])
      (.seq (.seq (.region [⟨(.l 138), .mv (.p 2), none⟩,
          ⟨(.l 139), .mv (.p 13), none⟩,
          ⟨(.l 140), .bin .gtr (.l 138) (.l 139), none⟩])
        (.cond (.l 140)
         (.seq (.region [⟨(.l 141), .mv (.p 14), none⟩,
            ⟨(.l 142), .mv (.p 3), none⟩,
            ⟨(.l 143), .bin .sub (.l 141) (.l 142), none⟩,
            ⟨(.p 15), .mv (.l 143), none⟩])
          (.region [⟨(.l 144), .mv (.p 13), none⟩,
            ⟨(.p 16), .mv (.l 144), none⟩]))
         (.seq (.region [⟨(.l 145), .mv (.p 1), none⟩,
            ⟨(.p 15), .mv (.l 145), none⟩])
          (.region [⟨(.l 146), .mv (.p 2), none⟩,
            ⟨(.p 16), .mv (.l 146), none⟩]))))
       (.seq (.region [⟨(.l 147), .mv (.p 14), none⟩,
          ⟨(.l 148), .bin .sub (.l 147) (.c (.int .i64 (1))), none⟩,
          ⟨(.p 17), .mv (.l 148), none⟩])
        (.seq (.block 8
          (.loop b222_4))
         (.seq (.region [⟨(.l 175), .mv (.p 14), none⟩,
            ⟨(.l 176), .mv (.p 15), none⟩,
            ⟨(.l 177), .bin .sub (.l 175) (.l 176), none⟩,
            ⟨(.p 19), .mv (.l 177), none⟩])
          (.seq (.seq (.region [⟨(.l 178), .mv (.p 15), none⟩,
              ⟨(.l 179), .mv (.p 2), none⟩,
              ⟨(.l 180), .bin .lss (.l 178) (.l 179), none⟩,
              ⟨(.l 181), .mv (.l 180), none⟩,
              ⟨(.l 182), .mv (.p 2), some ((.l 181), true)⟩,
              ⟨(.l 183), .mv (.p 19), some ((.l 181), true)⟩,
              ⟨(.l 184), .bin .lss (.l 182) (.l 183), some ((.l 181), true)⟩,
              ⟨(.l 185), .pick (.l 181) (.l 184) (.c (.bool false)), none⟩])
            (.cond (.l 185)
             (.region [⟨(.l 186), .mv (.p 0), none⟩,
               ⟨(.l 187), .mv (.p 15), none⟩,
               ⟨(.l 188), .mv (.p 2), none⟩,
               ⟨(.l 189), .mv (.p 19), none⟩,
               ⟨(.l 190), .mv (.p 4), none⟩,
               ⟨(.l 191), .call (.c (.fn (.func 261) [] [])) [(.l 186), (.l 187), (.l 188), (.l 189), (.l 190)], none⟩])
             (.skip)))
           (.seq (.seq (.region [⟨(.l 192), .mv (.p 1), none⟩,
               ⟨(.l 193), .mv (.p 15), none⟩,
               ⟨(.l 194), .bin .lss (.l 192) (.l 193), none⟩,
               ⟨(.l 195), .mv (.l 194), none⟩,
               ⟨(.l 196), .mv (.p 15), some ((.l 195), true)⟩,
               ⟨(.l 197), .mv (.p 13), some ((.l 195), true)⟩,
               ⟨(.l 198), .bin .lss (.l 196) (.l 197), some ((.l 195), true)⟩,
               ⟨(.l 199), .pick (.l 195) (.l 198) (.c (.bool false)), none⟩])
             (.cond (.l 199)
              (.region [⟨(.l 200), .mv (.p 0), none⟩,
                ⟨(.l 201), .mv (.p 1), none⟩,
                ⟨(.l 202), .mv (.p 15), none⟩,
                ⟨(.l 203), .mv (.p 13), none⟩,
                ⟨(.l 204), .mv (.p 4), none⟩,
                ⟨(.l 205), .call (.c (.fn (.func 222) [] [])) [(.l 200), (.l 201), (.l 202), (.l 203), (.l 204)], none⟩])
              (.skip)))
            (.seq (.region [⟨(.l 206), .mv (.p 13), none⟩,
               ⟨(.l 207), .mv (.p 19), none⟩,
               ⟨(.l 208), .bin .lss (.l 206) (.l 207), none⟩,
               ⟨(.l 209), .mv (.l 208), none⟩,
               ⟨(.l 210), .mv (.p 19), some ((.l 209), true)⟩,
               ⟨(.l 211), .mv (.p 3), some ((.l 209), true)⟩,
               ⟨(.l 212), .bin .lss (.l 210) (.l 211), some ((.l 209), true)⟩,
               ⟨(.l 213), .pick (.l 209) (.l 212) (.c (.bool false)), none⟩])
             (.cond (.l 213)
              (.region [⟨(.l 214), .mv (.p 0), none⟩,
                ⟨(.l 215), .mv (.p 13), none⟩,
                ⟨(.l 216), .mv (.p 19), none⟩,
                ⟨(.l 217), .mv (.p 3), none⟩,
                ⟨(.l 218), .mv (.p 4), none⟩,
                ⟨(.l 219), .call (.c (.fn (.func 222) [] [])) [(.l 214), (.l 215), (.l 216), (.l 217), (.l 218)], none⟩])
              (.skip)))))))))))))
theorem ft222 : FT 222 = some ⟨220, [0, 1, 2, 3, 4, 10, 11, 12, 13, 14, 15, 16, 17, 18, 19, 20, 21, 22, 23, 24], [], b222⟩ := by kernel_rfl

def b261_0 : ICode :=
 .seq (.seq (.region [⟨(.l 18), .mv (.p 5), none⟩,
     ⟨(.l 19), .mv (.p 6), none⟩,
     ⟨(.l 20), .bin .neq (.l 18) (.l 19), none⟩])
   (.cond (.l 20)
    (.skip)
    (.exit 0)))
  (.block 1
   (.seq (.region [⟨(.l 21), .mv (.p 5), none⟩,
      ⟨(.l 22), .mv (.p 6), none⟩,
      ⟨(.l 23), .bin .gtr (.l 21) (.l 22), none⟩])
    (.cond (.l 23)
     (.seq (.region [⟨(.l 24), .mv (.p 0), none⟩,
        ⟨(.l 25), .mv (.p 2), none⟩,
        ⟨(.l 26), .mv (.p 5), none⟩,
        ⟨(.l 27), .bin .sub (.l 25) (.l 26), none⟩,
        ⟨(.l 28), .mv (.p 2), none⟩,
        ⟨(.l 29), .mv (.p 6), none⟩,
        ⟨(.l 30), .mv (.p 4), none⟩,
        ⟨(.l 31), .call (.c (.fn (.func 298) [] [])) [(.l 24), (.l 27), (.l 28), (.l 29), (.l 30)], none⟩])
      (.region [⟨(.l 32), .mv (.p 5), none⟩,
        ⟨(.l 33), .mv (.p 6), none⟩,
        ⟨(.l 34), .bin .sub (.l 32) (.l 33), none⟩,
        ⟨(.p 5), .mv (.l 34), none⟩]))
     (.seq (.region [⟨(.l 35), .mv (.p 0), none⟩,
        ⟨(.l 36), .mv (.p 2), none⟩,
        ⟨(.l 37), .mv (.p 5), none⟩,
        ⟨(.l 38), .bin .sub (.l 36) (.l 37), none⟩,
        ⟨(.l 39), .mv (.p 2), none⟩,
        ⟨(.l 40), .mv (.p 6), none⟩,
        ⟨(.l 41), .bin .add (.l 39) (.l 40), none⟩,
        ⟨(.l 42), .mv (.p 5), none⟩,
        ⟨(.l 43), .bin .sub (.l 41) (.l 42), none⟩,
        ⟨(.l 44), .mv (.p 5), none⟩,
        ⟨(.l 45), .mv (.p 4), none⟩,
        ⟨(.l 46), .call (.c (.fn (.func 298) [] [])) [(.l 35), (.l 38), (.l 43), (.l 44), (.l 45)], none⟩])
      (.region [⟨(.l 47), .mv (.p 6), none⟩,
        ⟨(.l 48), .mv (.p 5), none⟩,
        ⟨(.l 49), .bin .sub (.l 47) (.l 48), none⟩,
        ⟨(.p 6), .mv (.l 49), none⟩])))))
/-- slices.rotateCmpFunc[int] -/
def b261 : ICode :=
 .seq (.region [⟨(.l 12), .mv (.p 2), none⟩,
    ⟨(.l 13), .mv (.p 1), none⟩,
    ⟨(.l 14), .bin .sub (.l 12) (.l 13), none⟩,
    ⟨(.p 5), .mv (.l 14), none⟩])
  (.seq (.region [⟨(.l 15), .mv (.p 3), none⟩,
     ⟨(.l 16), .mv (.p 2), none⟩,
     ⟨(.l 17), .bin .sub (.l 15) (.l 16), none⟩,
     ⟨(.p 6), .mv (.l 17), none⟩])
   (.seq (.block 0
     (.loop b261_0))
    (.region [⟨(.l 50), .mv (.p 0), none⟩,
      ⟨(.l 51), .mv (.p 2), none⟩,
      ⟨(.l 52), .mv (.p 5), none⟩,
      ⟨(.l 53), .bin .sub (.l 51) (.l 52), none⟩,
      ⟨(.l 54), .mv (.p 2), none⟩,
      ⟨(.l 55), .mv (.p 5), none⟩,
      ⟨(.l 56), .mv (.p 4), none⟩,
      ⟨(.l 57), .call (.c (.fn (.func 298) [] [])) [(.l 50), (.l 53), (.l 54), (.l 55), (.l 56)], none⟩])))
theorem ft261 : FT 261 = some ⟨58, [0, 1, 2, 3, 4, 10, 11], [], b261⟩ := by kernel_rfl

def b298_0 : ICode :=
 .seq (.seq (.region [⟨(.l 11), .mv (.p 5), none⟩,
     ⟨(.l 12), .mv (.p 3), none⟩,
     ⟨(.l 13), .bin .lss (.l 11) (.l 12), none⟩])
   (.cond (.l 13)
    (.skip)
    (.exit 0)))
  (.seq (.block 1
    (.draw [(⟨(.l 16), .mv (.p 0), none⟩, []),
      (⟨(.l 17), .mv (.p 1), none⟩, [0]),
      (⟨(.l 18), .mv (.p 5), none⟩, [0, 1]),
      (⟨(.l 19), .bin .add (.l 17) (.l 18), none⟩, [0]),
      (⟨(.l 20), .mv (.p 0), none⟩, [0, 1, 2, 3]),
      (⟨(.l 21), .mv (.p 2), none⟩, [0, 1, 2, 3, 4]),
      (⟨(.l 22), .mv (.p 5), none⟩, [0, 1, 2, 3, 4, 5]),
      (⟨(.l 23), .bin .add (.l 21) (.l 22), none⟩, [0, 1, 2, 3, 4]),
      (⟨(.l 24), .mv (.p 0), none⟩, [0, 1, 2, 3, 4, 5, 6, 7]),
      (⟨(.l 25), .mv (.p 2), none⟩, [0, 1, 2, 3, 4, 5, 6, 7, 8]),
      (⟨(.l 26), .mv (.p 5), none⟩, [0, 1, 2, 3, 4, 5, 6, 7, 8, 9]),
      (⟨(.l 27), .bin .add (.l 25) (.l 26), none⟩, [0, 1, 2, 3, 4, 5, 6, 7, 8]),
      (⟨(.l 28), .iaddr none 1 (.l 24) (.l 27), none⟩, [0, 1, 2, 3, 4, 5, 6, 7]),
      (⟨(.l 29), .load 1 false (.l 28), none⟩, [0, 1, 2, 3, 4, 5, 6, 7]),
      (⟨(.l 30), .mv (.p 0), none⟩, [0, 1, 2, 3, 4, 5, 6, 7, 8, 9, 10, 11, 12, 13]),
      (⟨(.l 31), .mv (.p 1), none⟩, [0, 1, 2, 3, 4, 5, 6, 7, 8, 9, 10, 11, 12, 13, 14]),
      (⟨(.l 32), .mv (.p 5), none⟩, [0, 1, 2, 3, 4, 5, 6, 7, 8, 9, 10, 11, 12, 13, 14, 15]),
      (⟨(.l 33), .bin .add (.l 31) (.l 32), none⟩, [0, 1, 2, 3, 4, 5, 6, 7, 8, 9, 10, 11, 12, 13, 14]),
      (⟨(.l 34), .iaddr none 1 (.l 30) (.l 33), none⟩, [0, 1, 2, 3, 4, 5, 6, 7, 8, 9, 10, 11, 12, 13]),
      (⟨(.l 35), .load 1 false (.l 34), none⟩, [0, 1, 2, 3, 4, 5, 6, 7, 8, 9, 10, 11, 12, 13]),
      (⟨(.l 36), .iaddr none 1 (.l 16) (.l 19), none⟩, [4, 5, 6, 7]),
      (⟨.no, .store 1 (.l 36) (.l 29), none⟩, [4, 5, 6, 7]),
      (⟨(.l 37), .iaddr none 1 (.l 20) (.l 23), none⟩, []),
      (⟨.no, .store 1 (.l 37) (.l 35), none⟩, [])]))
   (.region [⟨(.l 14), .mv (.p 5), none⟩,
     ⟨(.l 15), .bin .add (.l 14) (.c (.int .i64 (1))), none⟩,
     ⟨(.p 5), .mv (.l 15), none⟩]))
/-- slices.swapRangeCmpFunc[int] -/
def b298 : ICode :=
 .seq (.region [⟨(.p 5), .mv (.c (.int .i64 (0))), none⟩])
  (.block 0
   (.loop b298_0))
theorem ft298 : FT 298 = some ⟨38, [0, 1, 2, 3, 4, 10], [], b298⟩ := by kernel_rfl

def b220_0 : ICode :=
 .seq (.region [⟨(.l 9), .bin .lss (.p 5) (.p 4), none⟩])
  (.seq (.cond (.l 9)
    (.skip)
    (.exit 0))
   (.seq (.block 1
     (.seq (.region [⟨(.l 10), .mv (.p 5), none⟩,
        ⟨(.p 3), .mv (.l 10), none⟩])
      (.seq (.region [⟨(.l 11), .mv (.p 1), none⟩,
         ⟨(.l 12), .mv (.p 0), none⟩,
         ⟨(.l 13), .mv (.p 3), none⟩,
         ⟨(.l 14), .iaddr none 1 (.l 12) (.l 13), none⟩,
         ⟨(.l 15), .load 1 false (.l 14), none⟩,
         ⟨(.l 16), .call (.l 11) [(.l 15)], none⟩])
       (.cond (.l 16)
        (.seq (.region [⟨(.l 17), .mv (.p 3), none⟩,
           ⟨(.p 2), .mv (.l 17), none⟩])
         (.ret))
        (.skip)))))
    (.region [⟨(.l 18), .bin .add (.p 5) (.c (.int .i64 (1))), none⟩,
      ⟨(.p 5), .mv (.l 18), none⟩])))
/-- slices.IndexFunc[[]int,int] -/
def b220 : ICode :=
 .seq (.region [⟨(.p 2), .mv (.c (.int .i64 (0))), none⟩])
  (.seq (.seq (.region [⟨(.l 6), .mv (.p 0), none⟩,
      ⟨(.p 4), .len .sl (.l 6), none⟩,
      ⟨(.p 5), .mv (.c (.int .i64 (0))), none⟩])
    (.block 0
     (.loop b220_0)))
   (.seq (.region [⟨(.p 2), .mv (.c (.int .i64 (-1))), none⟩])
    (.ret)))
theorem ft220 : FT 220 = some ⟨19, [0, 1, 4, 5, 7, 8], [.var (.p 2)], b220⟩ := by kernel_rfl

def b22_0 : ICode :=
 .seq (.seq (.region [⟨(.l 11), .mv (.p 4), none⟩,
     ⟨(.l 12), .mv (.p 1), none⟩,
     ⟨(.l 13), .bin .lss (.l 11) (.l 12), none⟩])
   (.cond (.l 13)
    (.skip)
    (.exit 0)))
  (.seq (.block 1
    (.region [⟨(.l 16), .mv (.p 3), none⟩,
      ⟨(.l 17), .mv (.p 4), none⟩,
      ⟨(.l 18), .mv (.p 4), none⟩,
      ⟨(.l 19), .iaddr none 1 (.l 16) (.l 17), none⟩,
      ⟨.no, .store 1 (.l 19) (.l 18), none⟩]))
   (.region [⟨(.l 14), .mv (.p 4), none⟩,
     ⟨(.l 15), .bin .add (.l 14) (.c (.int .i64 (1))), none⟩,
     ⟨(.p 4), .mv (.l 15), none⟩]))
def b22_1 : ICode :=
 .seq (.seq (.region [⟨(.l 22), .mv (.p 5), none⟩,
     ⟨(.l 23), .bin .geq (.l 22) (.c (.int .i64 (1))), none⟩])
   (.cond (.l 23)
    (.skip)
    (.exit 2)))
  (.seq (.block 3
    (.seq (.region [⟨(.l 26), .mv (.p 0), none⟩,
       ⟨(.l 27), .bin .mul (.c (.int .i64 (69621))) (.l 26), none⟩,
       ⟨(.l 28), .bin .rem (.l 27) (.c (.int .i64 (2147483647))), none⟩,
       ⟨(.p 0), .mv (.l 28), none⟩])
     (.seq (.region [⟨(.l 29), .mv (.p 0), none⟩,
        ⟨(.l 30), .mv (.p 5), none⟩,
        ⟨(.l 31), .bin .add (.l 30) (.c (.int .i64 (1))), none⟩,
        ⟨(.l 32), .bin .rem (.l 29) (.l 31), none⟩,
        ⟨(.p 6), .mv (.l 32), none⟩])
      (.draw [(⟨(.l 33), .mv (.p 3), none⟩, []),
        (⟨(.l 34), .mv (.p 5), none⟩, [0]),
        (⟨(.l 35), .mv (.p 3), none⟩, [0, 1]),
        (⟨(.l 36), .mv (.p 6), none⟩, [0, 1, 2]),
        (⟨(.l 37), .mv (.p 3), none⟩, [0, 1, 2, 3]),
        (⟨(.l 38), .mv (.p 6), none⟩, [0, 1, 2, 3, 4]),
        (⟨(.l 39), .iaddr none 1 (.l 37) (.l 38), none⟩, [0, 1, 2, 3]),
        (⟨(.l 40), .load 1 false (.l 39), none⟩, [0, 1, 2, 3]),
        (⟨(.l 41), .mv (.p 3), none⟩, [0, 1, 2, 3, 4, 5, 6, 7]),
        (⟨(.l 42), .mv (.p 5), none⟩, [0, 1, 2, 3, 4, 5, 6, 7, 8]),
        (⟨(.l 43), .iaddr none 1 (.l 41) (.l 42), none⟩, [0, 1, 2, 3, 4, 5, 6, 7]),
        (⟨(.l 44), .load 1 false (.l 43), none⟩, [0, 1, 2, 3, 4, 5, 6, 7]),
        (⟨(.l 45), .iaddr none 1 (.l 33) (.l 34), none⟩, [2, 3]),
        (⟨.no, .store 1 (.l 45) (.l 40), none⟩, [2, 3]),
        (⟨(.l 46), .iaddr none 1 (.l 35) (.l 36), none⟩, []),
        (⟨.no, .store 1 (.l 46) (.l 44), none⟩, [])]))))
   (.region [⟨(.l 24), .mv (.p 5), none⟩,
     ⟨(.l 25), .bin .sub (.l 24) (.c (.int .i64 (1))), none⟩,
     ⟨(.p 5), .mv (.l 25), none⟩]))
/-- stadion/stadionref01.Draw -/
def b22 : ICode :=
 .seq (.region [⟨(.p 2), .mv (.c (.nilsl)), none⟩])
  (.seq (.region [⟨(.l 9), .mv (.p 1), none⟩,
     ⟨(.l 10), .mkslice 3 1 8 [.int .i64 (0)] (.l 9) (.l 9), none⟩,
     ⟨(.p 3), .mv (.l 10), none⟩])
   (.seq (.seq (.region [⟨(.p 4), .mv (.c (.int .i64 (0))), none⟩])
     (.block 0
      (.loop b22_0)))
    (.seq (.seq (.region [⟨(.l 20), .mv (.p 1), none⟩,
        ⟨(.l 21), .bin .sub (.l 20) (.c (.int .i64 (1))), none⟩,
        ⟨(.p 5), .mv (.l 21), none⟩])
      (.block 2
       (.loop b22_1)))
     (.seq (.region [⟨(.l 47), .mv (.p 3), none⟩,
        ⟨(.p 2), .mv (.l 47), none⟩])
      (.ret)))))
theorem ft22 : FT 22 = some ⟨48, [0, 1, 4, 5, 6, 7, 8], [.var (.p 2)], b22⟩ := by kernel_rfl

end Go.Ab.Ch1

/-
  Own work: plain facts on stable sorting by blocks that are merged in place.
-/
namespace Go.Ab.Sort

/-- By a key, the greater first; equal ones as they are numbered. -/
def Lt (key : Int → Int) (x y : Int) : Prop := key y < key x ∨ key x = key y ∧ x < y

section
variable {key : Int → Int}
theorem Lt.trans {x y z : Int} (h1 : Lt key x y) (h2 : Lt key y z) : Lt key x z := by unfold Lt at *; omega
theorem Lt.irr {x : Int} : ¬ Lt key x x := by unfold Lt; omega
theorem Lt.tot {x y : Int} (h : x < y) (hn : ¬ Lt key y x) : Lt key x y := by unfold Lt at *; omega
theorem Lt.iff {x y : Int} (h : x < y) : Lt key y x ↔ key x < key y := by unfold Lt; omega

def Sd (key : Int → Int) (l : List Int) : Prop := l.Pairwise (Lt key)

theorem Sd.nil : Sd key [] := List.Pairwise.nil
theorem Sd.one (x : Int) : Sd key [x] := List.pairwise_singleton _ _
theorem Sd.app {l m : List Int} (h1 : Sd key l) (h2 : Sd key m) (h : ∀ x ∈ l, ∀ y ∈ m, Lt key x y) : Sd key (l ++ m) :=
  List.pairwise_append.2 ⟨h1, h2, h⟩
theorem Sd.left {l m : List Int} (h : Sd key (l ++ m)) : Sd key l := (List.pairwise_append.1 h).1
theorem Sd.right {l m : List Int} (h : Sd key (l ++ m)) : Sd key m := (List.pairwise_append.1 h).2.1
theorem Sd.cross {l m : List Int} (h : Sd key (l ++ m)) : ∀ x ∈ l, ∀ y ∈ m, Lt key x y := (List.pairwise_append.1 h).2.2
theorem Sd.get {l : List Int} (h : Sd key l) {i j : Nat} {x y : Int} (hi : l[i]? = some x) (hj : l[j]? = some y) (hij : i < j) : Lt key x y := by
  obtain ⟨h1, rfl⟩ := List.getElem?_eq_some_iff.1 hi
  obtain ⟨h2, rfl⟩ := List.getElem?_eq_some_iff.1 hj
  exact List.pairwise_iff_getElem.1 h i j h1 h2 hij

/-- An element that goes down through those it is before. -/
theorem ins_stop {S1 S2 : List Int} {x : Int} (hs : Sd key (S1 ++ S2)) (h2 : ∀ y ∈ S2, Lt key x y) (h1 : ∀ y, S1.getLast? = some y → Lt key y x) : Sd key (S1 ++ x :: S2) := by
  have h1' : ∀ y ∈ S1, Lt key y x := by
    intro y hy
    obtain ⟨L, z, rfl⟩ : ∃ L z, S1 = L ++ [z] := by
      rcases List.eq_nil_or_concat S1 with rfl | ⟨L, z, rfl⟩
      · cases hy
      · exact ⟨L, z, by simp⟩
    have hz := h1 z (by simp)
    rcases List.mem_append.1 hy with h | h
    · exact (hs.left.cross y h z (by simp)).trans hz
    · simp only [List.mem_singleton] at h; subst h; exact hz
  refine hs.left.app (List.pairwise_cons.2 ⟨h2, hs.right⟩) fun y hy z hz => ?_
  rcases List.mem_cons.1 hz with rfl | h
  · exact h1' y hy
  · exact hs.cross y hy z h

/-- Where one element goes in a sorted list, by halving. -/
theorem one_left {x : Int} {R : List Int} {i : Nat} (hs : Sd key R) (h1 : ∀ k y, k < i → R[k]? = some y → Lt key y x) (h2 : ∀ k y, i ≤ k → R[k]? = some y → Lt key x y) : Sd key (R.take i ++ x :: R.drop i) := by
  have hs' : Sd key (R.take i ++ R.drop i) := by rw [List.take_append_drop]; exact hs
  refine hs'.left.app (List.pairwise_cons.2 ⟨fun y hy => ?_, hs'.right⟩) fun y hy z hz => ?_
  · obtain ⟨k, hk⟩ := List.mem_iff_getElem?.1 hy
    rw [List.getElem?_drop] at hk
    exact h2 _ y (by omega) hk
  · have hyx : Lt key y x := by
      obtain ⟨k, hk⟩ := List.mem_iff_getElem?.1 hy
      rw [List.getElem?_take] at hk
      split at hk
      · exact h1 k y (by assumption) hk
      · cases hk
    rcases List.mem_cons.1 hz with rfl | h
    · exact hyx
    · exact hs'.cross y hy z h

/-- The halves of a merge: behind the turn, what is in the first half is before what is in the other. -/
theorem sym_cross {L1 L2 R1 R2 : List Int} (hL : Sd key (L1 ++ L2)) (hR : Sd key (R1 ++ R2)) (h1 : ∀ x y, L1.getLast? = some x → R2.head? = some y → Lt key x y) (h2 : ∀ x y, L2.head? = some x → R1.getLast? = some y → Lt key y x) :
    ∀ x ∈ L1 ++ R1, ∀ y ∈ L2 ++ R2, Lt key x y := by
  have le_last : ∀ {A B : List Int}, Sd key (A ++ B) → ∀ x ∈ A, ∃ z, A.getLast? = some z ∧ (x = z ∨ Lt key x z) := by
    intro A B h x hx
    rcases List.eq_nil_or_concat A with rfl | ⟨M, z, rfl⟩
    · cases hx
    · refine ⟨z, by simp, ?_⟩
      simp only [List.concat_eq_append] at hx h
      rcases List.mem_append.1 hx with h' | h'
      · exact .inr (h.left.cross x h' z (by simp))
      · simp only [List.mem_singleton] at h'; exact .inl h'
  have ge_head : ∀ {A B : List Int}, Sd key (A ++ B) → ∀ x ∈ B, ∃ z, B.head? = some z ∧ (z = x ∨ Lt key z x) := by
    intro A B h x hx
    cases B with
    | nil => cases hx
    | cons z M =>
      refine ⟨z, rfl, ?_⟩
      rcases List.mem_cons.1 hx with rfl | h'
      · exact .inl rfl
      · exact .inr ((List.pairwise_cons.1 h.right).1 x h')
  intro x hx y hy
  rcases List.mem_append.1 hx with hx | hx <;> rcases List.mem_append.1 hy with hy | hy
  · exact hL.cross x hx y hy
  · obtain ⟨a, ha, hxa⟩ := le_last hL x hx
    obtain ⟨b, hb, hby⟩ := ge_head hR y hy
    have := h1 a b ha hb
    rcases hxa with rfl | h <;> rcases hby with rfl | h'
    · exact this
    · exact this.trans h'
    · exact h.trans this
    · exact (h.trans this).trans h'
  · obtain ⟨a, ha, hxa⟩ := le_last hR x hx
    obtain ⟨b, hb, hby⟩ := ge_head hL y hy
    have := h2 b a hb ha
    rcases hxa with rfl | h <;> rcases hby with rfl | h'
    · exact this
    · exact this.trans h'
    · exact h.trans this
    · exact (h.trans this).trans h'
  · exact hR.cross x hx y hy

/-- Blocks, each sorted, each of the elements of its place. -/
inductive Ch (key : Int → Int) (bs : Nat) : List Int → List Int → Prop
  | last {S S0 : List Int} : S.length ≤ bs → Sd key S → S.Perm S0 → Ch key bs S S0
  | more {S S0 l l0 : List Int} : S.length = bs → Sd key S → S.Perm S0 → Ch key bs l l0 → Ch key bs (S ++ l) (S0 ++ l0)

theorem Ch.perm {bs : Nat} {l l0 : List Int} (h : Ch key bs l l0) : l.Perm l0 := by
  induction h with
  | last _ _ h => exact h
  | more _ _ h _ ih => exact h.append ih

theorem Ch.done {bs : Nat} {l l0 : List Int} (h : Ch key bs l l0) (hl : l.length ≤ bs) : Sd key l := by
  cases h with
  | last _ h _ => exact h
  | @more S S0 m m0 h1 h2 _ _ =>
    have : m.length = 0 := by simp at hl; omega
    obtain rfl := List.length_eq_zero_iff.1 this
    simpa using h2

/-- A block in front of more than it. -/
theorem Ch.front {bs : Nat} {l l0 : List Int} (h : Ch key bs l l0) (hl : bs < l.length) : ∃ S S0 m m0, l = S ++ m ∧ l0 = S0 ++ m0 ∧ S.length = bs ∧ Sd key S ∧ S.Perm S0 ∧ Ch key bs m m0 := by
  cases h with
  | last h _ _ => omega
  | more h1 h2 h3 h4 => exact ⟨_, _, _, _, rfl, rfl, h1, h2, h3, h4⟩
/-- A full block in front. -/
theorem Ch.full {bs : Nat} {l l0 : List Int} (h : Ch key bs l l0) (hl : bs ≤ l.length) : ∃ S S0 m m0, l = S ++ m ∧ l0 = S0 ++ m0 ∧ S.length = bs ∧ Sd key S ∧ S.Perm S0 ∧ Ch key bs m m0 := by
  cases h with
  | last h h2 h3 => exact ⟨l, l0, [], [], by simp, by simp, by omega, h2, h3, .last (by simp) Sd.nil (.refl _)⟩
  | more h1 h2 h3 h4 => exact ⟨_, _, _, _, rfl, rfl, h1, h2, h3, h4⟩

/-- How many are before an element. -/
def rank (key : Int → Int) (l : List Int) (x : Int) : Nat := l.countP fun y => decide (key x < key y ∨ key y = key x ∧ y < x)
theorem rank_perm {l m : List Int} (h : l.Perm m) (x : Int) : rank key l x = rank key m x := h.countP_eq _
theorem rank_get {l : List Int} (h : Sd key l) {k : Nat} {x : Int} (hk : l[k]? = some x) : rank key l x = k := by
  obtain ⟨h1, rfl⟩ := List.getElem?_eq_some_iff.1 hk
  have e : l = l.take k ++ l[k] :: l.drop (k + 1) := by rw [← List.drop_eq_getElem_cons h1, List.take_append_drop]
  have hs := h
  rw [e] at hs
  unfold rank
  conv => lhs; arg 2; rw [e]
  rw [List.countP_append, List.countP_cons]
  have c1 : (l.take k).countP (fun y => decide (key l[k] < key y ∨ key y = key l[k] ∧ y < l[k])) = k := by
    rw [List.countP_eq_length.2, List.length_take]
    · omega
    · intro y hy
      have := hs.cross y hy l[k] (List.mem_cons_self)
      unfold Lt at this
      exact decide_eq_true this
  have c2 : (l.drop (k + 1)).countP (fun y => decide (key l[k] < key y ∨ key y = key l[k] ∧ y < l[k])) = 0 := by
    rw [List.countP_eq_zero]
    intro y hy
    have := (List.pairwise_cons.1 hs.right).1 y hy
    unfold Lt at this
    simp only [decide_eq_true_eq]
    omega
  rw [c1, c2]
  simp

/-- Each list of different elements can be sorted. -/
theorem ins_exists (x : Int) : ∀ {m : List Int}, Sd key m → x ∉ m → ∃ m', Sd key m' ∧ m'.Perm (x :: m)
  | [], _, _ => ⟨[x], Sd.one x, .refl _⟩
  | y :: m, h, hn => by
    have hxy : x ≠ y := fun e => hn (by simp [e])
    obtain ⟨hy, hm⟩ := List.pairwise_cons.1 h
    by_cases hl : Lt key x y
    · refine ⟨x :: y :: m, List.pairwise_cons.2 ⟨fun z hz => ?_, h⟩, .refl _⟩
      rcases List.mem_cons.1 hz with rfl | hz
      · exact hl
      · exact hl.trans (hy z hz)
    · have hyx : Lt key y x := by unfold Lt at *; omega
      obtain ⟨m', h1, h2⟩ := ins_exists x hm (fun h => hn (List.mem_cons_of_mem _ h))
      refine ⟨y :: m', List.pairwise_cons.2 ⟨fun z hz => ?_, h1⟩, (h2.cons y).trans (.swap _ _ _)⟩
      rcases List.mem_cons.1 (h2.mem_iff.1 hz) with rfl | hz
      · exact hyx
      · exact hy z hz
theorem sort_exists : ∀ {l : List Int}, l.Nodup → ∃ m, Sd key m ∧ m.Perm l
  | [], _ => ⟨[], Sd.nil, .refl _⟩
  | x :: l, h => by
    obtain ⟨h1, h2⟩ := List.nodup_cons.1 h
    obtain ⟨m, hm, hp⟩ := sort_exists h2
    obtain ⟨m', hm', hp'⟩ := ins_exists x hm (fun h => h1 (hp.mem_iff.1 h))
    exact ⟨m', hm', hp'.trans (hp.cons x)⟩

theorem rank_lt {l : List Int} {x : Int} (hl : l.Nodup) (hx : x ∈ l) : rank key l x < l.length := by
  obtain ⟨m, hm, hp⟩ := sort_exists (key := key) hl
  obtain ⟨k, hk⟩ := List.mem_iff_getElem?.1 (hp.mem_iff.2 hx)
  rw [← rank_perm hp, rank_get hm hk, ← hp.length_eq]
  exact (List.getElem?_eq_some_iff.1 hk).1
theorem rank_at {l : List Int} {t : Nat} (hl : l.Nodup) (ht : t < l.length) : ∃ x ∈ l, rank key l x = t := by
  obtain ⟨m, hm, hp⟩ := sort_exists (key := key) hl
  have ht' : t < m.length := by rw [hp.length_eq]; exact ht
  refine ⟨m[t], hp.mem_iff.1 (List.getElem_mem _), ?_⟩
  rw [← rank_perm hp]
  exact rank_get hm (List.getElem?_eq_getElem ht')
theorem rank_mono {l : List Int} {x y : Int} (hx : x ∈ l) (h : Lt key x y) : rank key l x < rank key l y := by
  unfold rank
  obtain ⟨A, B, rfl⟩ := List.append_of_mem hx
  have hle : ∀ L : List Int, L.countP (fun z => decide (key x < key z ∨ key z = key x ∧ z < x)) ≤ L.countP (fun z => decide (key y < key z ∨ key z = key y ∧ z < y)) := by
    intro L
    refine List.countP_mono_left fun z _ hz => ?_
    simp only [decide_eq_true_eq] at hz ⊢
    unfold Lt at h
    omega
  rw [List.countP_append, List.countP_append, List.countP_cons, List.countP_cons]
  have h1 := hle A
  have h2 := hle B
  have h3 : decide (key x < key x ∨ key x = key x ∧ x < x) = false := by simp
  have h4 : decide (key y < key x ∨ key x = key y ∧ x < y) = true := decide_eq_true h
  rw [h3, h4]
  simp only [Bool.false_eq_true, if_false, if_true]
  omega
theorem rank_inj {l : List Int} {x y : Int} (hx : x ∈ l) (hy : y ∈ l) (h : rank key l x = rank key l y) : x = y := by
  refine Decidable.byContradiction fun hn => ?_
  have : Lt key x y ∨ Lt key y x := by unfold Lt; omega
  rcases this with h' | h'
  · have := rank_mono hx h'; omega
  · have := rank_mono hy h'; omega

/-- The first of the greatest ones that are left has the rank of their number. -/
theorem best_rank {l : List Int} {t : Nat} {b : Int} {R : Int → Int} (hl : l.Nodup) (ht : t < l.length) (hk : ∀ x ∈ l, 0 ≤ key x) (hR : ∀ x ∈ l, R x = if rank key l x < t then -1 else key x)
    (hb : b ∈ l) (h1 : ∀ x ∈ l, x < b → R x < R b) (h2 : ∀ x ∈ l, b < x → R x ≤ R b) : rank key l b = t := by
  obtain ⟨i, hi, hit⟩ := rank_at (key := key) hl ht
  have hRi : R i = key i := by rw [hR i hi, if_neg (by omega)]
  by_cases e : i = b
  · rw [← e]; exact hit
  · have h0 := hk i hi
    have hbi : R i ≤ R b := by
      rcases Int.lt_or_gt_of_ne e with h | h
      · exact Int.le_of_lt (h1 i hi h)
      · exact h2 i hi h
    have hRb := hR b hb
    split at hRb
    · omega
    · rename_i hn
      have hne : rank key l b ≠ t := fun h => e (rank_inj (key := key) hi hb (by omega))
      have hlt : Lt key i b := by
        rcases (show Lt key i b ∨ Lt key b i by unfold Lt; omega) with h | h
        · exact h
        · have := rank_mono hb h
          omega
      unfold Lt at hlt
      rcases Int.lt_or_gt_of_ne e with h | h
      · have := h1 i hi h; omega
      · have := h2 i hi h; omega
end

/-- The numbers below n. -/
def numsTo (n : Nat) : List Int := (List.range n).map Int.ofNat
theorem numsTo_length {n : Nat} : (numsTo n).length = n := by simp [numsTo]
theorem numsTo_get {n i : Nat} : (numsTo n)[i]? = if i < n then some (i : Int) else none := by
  unfold numsTo
  rw [List.getElem?_map]
  split
  · rw [List.getElem?_range (by assumption)]; rfl
  · rw [List.getElem?_eq_none (by simp; omega)]; rfl
theorem numsTo_succ {n : Nat} : numsTo (n + 1) = numsTo n ++ [(n : Int)] := by simp [numsTo, List.range_succ]
theorem numsTo_mem {n : Nat} {x : Int} : x ∈ numsTo n ↔ 0 ≤ x ∧ x < n := by
  unfold numsTo
  simp only [List.mem_map, List.mem_range]
  constructor
  · rintro ⟨a, h, rfl⟩; constructor <;> simp <;> omega
  · rintro ⟨h1, h2⟩; exact ⟨x.toNat, by omega, by simp; omega⟩
theorem numsTo_nodup {n : Nat} : (numsTo n).Nodup := by
  unfold numsTo
  rw [List.nodup_iff_pairwise_ne, List.pairwise_map]
  exact List.nodup_range.imp fun h e => h (by exact Int.ofNat.inj e)
theorem numsTo_lt {n : Nat} : (numsTo n).Pairwise (· < ·) := by
  unfold numsTo
  rw [List.pairwise_map]
  exact List.pairwise_lt_range.imp fun h => by simpa using h

def sum (l : List Int) : Int := l.foldl (· + ·) 0
theorem foldl_add (l : List Int) (a : Int) : l.foldl (· + ·) a = a + sum l := by
  unfold sum
  induction l generalizing a with
  | nil => simp
  | cons x l ih => rw [List.foldl_cons, List.foldl_cons, ih, ih (0 + x)]; omega
theorem sum_cons (x : Int) (l : List Int) : sum (x :: l) = x + sum l := by
  show (x :: l).foldl (· + ·) 0 = _
  rw [List.foldl_cons, foldl_add]; omega
theorem sum_append (l m : List Int) : sum (l ++ m) = sum l + sum m := by
  unfold sum; rw [List.foldl_append, foldl_add]; rfl
theorem sum_nonneg {l : List Int} (h : ∀ x ∈ l, 0 ≤ x) : 0 ≤ sum l := by
  induction l with
  | nil => simp [sum]
  | cons x l ih => rw [sum_cons]; have := ih fun y hy => h y (by simp [hy]); have := h x (by simp); omega
theorem sum_le {l : List Int} {m : Int} (h : ∀ x ∈ l, x ≤ m) : sum l ≤ l.length * m := by
  induction l with
  | nil => simp [sum]
  | cons x l ih =>
    rw [sum_cons]
    have := ih fun y hy => h y (by simp [hy])
    have := h x (by simp)
    simp only [List.length_cons, Int.natCast_add, Int.add_mul]
    omega
theorem sum_zero {l : List Int} (h : ∀ x ∈ l, 0 ≤ x) (hs : sum l = 0) : ∀ x ∈ l, x = 0 := by
  induction l with
  | nil => simp
  | cons x l ih =>
    rw [sum_cons] at hs
    have h0 := sum_nonneg fun y hy => h y (List.mem_cons_of_mem _ hy)
    have h1 := h x (by simp)
    intro y hy
    rcases List.mem_cons.1 hy with rfl | hy
    · omega
    · exact ih (fun y hy => h y (by simp [hy])) (by omega) y hy

/-- The shares: their whole parts, and one more for the first ranks. -/
def base (total : Int) (w : List Int) : List Int := w.map fun x => total * x / sum w
def skey (total : Int) (w : List Int) (i : Int) : Int := total * w.getD i.toNat 0 % sum w
def remain (total : Int) (w : List Int) : Int := total - sum (base total w)
def share (total : Int) (w : List Int) : List Int :=
  (numsTo w.length).map fun i => total * w.getD i.toNat 0 / sum w + if (rank (skey total w) (numsTo w.length) i : Int) < remain total w then 1 else 0

theorem sum_parts (total s : Int) (hs : 0 < s) : ∀ w : List Int, total * sum w = s * sum (w.map fun x => total * x / s) + sum (w.map fun x => total * x % s)
  | [] => by simp [sum]
  | x :: w => by
    have ih := sum_parts total s hs w
    simp only [List.map_cons, sum_cons, Int.mul_add]
    have := Int.mul_ediv_add_emod (total * x) s
    omega
theorem left_bounds {total : Int} {w : List Int} (hs : 0 < sum w) : 0 ≤ remain total w ∧ remain total w < w.length := by
  have h := sum_parts total (sum w) hs w
  have hm : ∀ x ∈ w.map (fun x => total * x % sum w), 0 ≤ x ∧ x ≤ sum w - 1 := by
    intro x hx
    obtain ⟨y, _, rfl⟩ := List.mem_map.1 hx
    have := Int.emod_nonneg (total * y) (Int.ne_of_gt hs)
    have := Int.emod_lt_of_pos (total * y) hs
    omega
  have h0 := sum_nonneg fun x hx => (hm x hx).1
  have h1 := sum_le fun x hx => (hm x hx).2
  rw [List.length_map] at h1
  have e : sum w * remain total w = sum (w.map fun x => total * x % sum w) := by
    unfold remain base
    rw [Int.mul_sub, Int.mul_comm (sum w) total]
    omega
  constructor
  · refine Decidable.byContradiction fun hn => ?_
    have : sum w * remain total w < 0 := Int.mul_neg_of_pos_of_neg hs (by omega)
    omega
  · refine Decidable.byContradiction fun hn => ?_
    have h2 : sum w * (w.length : Int) ≤ sum w * remain total w := Int.mul_le_mul_of_nonneg_left (by omega) (Int.le_of_lt hs)
    have hl : w ≠ [] := fun e => by rw [e] at hs; simp [sum] at hs
    have hl' : 0 < w.length := List.length_pos_iff.2 hl
    rw [Int.mul_sub, Int.mul_one, Int.mul_comm (w.length : Int) (sum w)] at h1
    omega

theorem map_numsTo_get {n i : Nat} {f : Int → Int} : ((numsTo n).map f)[i]? = if i < n then some (f i) else none := by
  rw [List.getElem?_map, numsTo_get]; split <;> rfl
theorem map_numsTo_set {n b : Nat} {f g : Int → Int} {v : Int} (hv : g b = v) (h : ∀ i : Nat, i < n → i ≠ b → g i = f i) : ((numsTo n).map f).set b v = (numsTo n).map g := by
  apply List.ext_getElem?
  intro i
  rw [List.getElem?_set, map_numsTo_get, map_numsTo_get]
  simp only [List.length_map, numsTo_length]
  split
  · rename_i e; subst e; split
    · rw [hv]
    · rfl
  · rename_i e
    split
    · rw [h i (by assumption) (fun h => e h.symm)]
    · rfl

/-- The shares and the rests when t ranks have had theirs. -/
def outT (total : Int) (w : List Int) (t : Nat) : List Int :=
  (numsTo w.length).map fun i => total * w.getD i.toNat 0 / sum w + if rank (skey total w) (numsTo w.length) i < t then 1 else 0
def restT (total : Int) (w : List Int) (t : Nat) : List Int :=
  (numsTo w.length).map fun i => if rank (skey total w) (numsTo w.length) i < t then -1 else skey total w i
theorem outT_length {total : Int} {w : List Int} {t : Nat} : (outT total w t).length = w.length := by simp [outT, numsTo_length]
theorem restT_length {total : Int} {w : List Int} {t : Nat} : (restT total w t).length = w.length := by simp [restT, numsTo_length]
theorem share_out {total : Int} {w : List Int} (h : 0 ≤ remain total w) : outT total w (remain total w).toNat = share total w := by
  unfold outT share
  refine List.map_congr_left fun i _ => ?_
  have : (rank (skey total w) (numsTo w.length) i < (remain total w).toNat) = ((rank (skey total w) (numsTo w.length) i : Int) < remain total w) := by
    apply propext; omega
  simp only [this]
theorem getD_map (w : List Int) (f : Int → Int) : (numsTo w.length).map (fun i => f (w.getD i.toNat 0)) = w.map f := by
  apply List.ext_getElem?
  intro i
  rw [map_numsTo_get, List.getElem?_map]
  split
  · rename_i h
    rw [List.getElem?_eq_getElem h]
    simp [List.getD_eq_getElem?_getD, List.getElem?_eq_getElem h]
  · rw [List.getElem?_eq_none (by omega)]; rfl
theorem outT_zero {total : Int} {w : List Int} : outT total w 0 = base total w := by
  unfold outT base
  simp only [Nat.not_lt_zero, if_false, Int.add_zero]
  exact getD_map w fun x => total * x / sum w
theorem restT_zero {total : Int} {w : List Int} : restT total w 0 = w.map fun x => total * x % sum w := by
  unfold restT skey
  simp only [Nat.not_lt_zero, if_false]
  exact getD_map w fun x => total * x % sum w

theorem outT_next {total : Int} {w : List Int} {t b : Nat} {x : Int} (hb : b < w.length) (hx : (outT total w t)[b]? = some x) (hr : rank (skey total w) (numsTo w.length) b = t) : (outT total w t).set b (x + 1) = outT total w (t + 1) := by
  unfold outT at hx ⊢
  rw [map_numsTo_get, if_pos hb] at hx
  cases hx
  refine map_numsTo_set ?_ fun i hi hne => ?_
  · simp only [hr, Nat.lt_irrefl, if_false, Nat.lt_succ_self, if_true, Int.add_zero]
  · have : rank (skey total w) (numsTo w.length) i ≠ t := fun h => hne (by
      have := rank_inj (key := skey total w) (numsTo_mem.2 ⟨by omega, by omega⟩) (numsTo_mem.2 ⟨by omega, by omega⟩) (h.trans hr.symm)
      omega)
    have e : (rank (skey total w) (numsTo w.length) i < t + 1) = (rank (skey total w) (numsTo w.length) i < t) := by apply propext; omega
    simp only [e]
theorem restT_next {total : Int} {w : List Int} {t b : Nat} (_ : b < w.length) (hr : rank (skey total w) (numsTo w.length) b = t) : (restT total w t).set b (-1) = restT total w (t + 1) := by
  unfold restT
  refine map_numsTo_set ?_ fun i hi hne => ?_
  · simp only [hr, Nat.lt_succ_self, if_true]
  · have : rank (skey total w) (numsTo w.length) i ≠ t := fun h => hne (by
      have := rank_inj (key := skey total w) (numsTo_mem.2 ⟨by omega, by omega⟩) (numsTo_mem.2 ⟨by omega, by omega⟩) (h.trans hr.symm)
      omega)
    have e : (rank (skey total w) (numsTo w.length) i < t + 1) = (rank (skey total w) (numsTo w.length) i < t) := by apply propext; omega
    simp only [e]

/-- What the reference's search finds. -/
theorem restT_best {total : Int} {w : List Int} {t b : Nat} {x : Int} (hs : 0 < sum w) (ht : t < w.length) (hx : (restT total w t)[b]? = some x) (h1 : ∀ (i : Nat) y, i < b → (restT total w t)[i]? = some y → y < x) (h2 : ∀ (i : Nat) y, b < i → (restT total w t)[i]? = some y → y ≤ x) :
    rank (skey total w) (numsTo w.length) b = t := by
  have hb : b < w.length := by
    have := (List.getElem?_eq_some_iff.1 hx).1
    rwa [restT_length] at this
  have hg : ∀ i : Nat, i < w.length → (restT total w t)[i]? = some (if rank (skey total w) (numsTo w.length) i < t then -1 else skey total w i) := fun i hi => by
    unfold restT; rw [map_numsTo_get, if_pos hi]
  rw [hg b hb] at hx
  cases hx
  refine best_rank (R := fun i => if rank (skey total w) (numsTo w.length) i < t then -1 else skey total w i) numsTo_nodup (by rw [numsTo_length]; exact ht) (fun x _ => Int.emod_nonneg _ (Int.ne_of_gt hs)) (fun _ _ => rfl) (numsTo_mem.2 ⟨by omega, by omega⟩) (fun x hx hlt => ?_) (fun x hx hlt => ?_)
  · have := numsTo_mem.1 hx
    obtain ⟨i, rfl⟩ : ∃ i : Nat, x = i := ⟨x.toNat, by omega⟩
    exact h1 i _ (by omega) (hg i (by omega))
  · have := numsTo_mem.1 hx
    obtain ⟨i, rfl⟩ : ∃ i : Nat, x = i := ⟨x.toNat, by omega⟩
    exact h2 i _ (by omega) (hg i (by omega))

/-- A sorted order tells the ranks. -/
theorem order_rank {key : Int → Int} {n k : Nat} {o : List Int} {i : Int} (h : Sd key o) (hp : o.Perm (numsTo n)) (hi : o[k]? = some i) : rank key (numsTo n) i = k ∧ 0 ≤ i ∧ i < n := by
  refine ⟨by rw [← rank_perm hp]; exact rank_get h hi, numsTo_mem.1 (hp.mem_iff.1 (List.mem_iff_getElem?.2 ⟨k, hi⟩))⟩
end Go.Ab.Sort

/-
  Own work: slices.SortStableFunc over ints: what it computes, at a comparison that reads nothing of the row.
-/
namespace Go.Ab.Ch1
open Go.Ab.Sort
variable {M : Mach} {h : Heap} {b n : Nat} {cap : Option Nat} {g : AV}

def swapR : Nat → Nat → Nat → List Int → List Int
  | 0, _, _, l => l
  | r + 1, a, c, l => swapR r (a + 1) (c + 1) ((l.set a l[c]!).set c l[a]!)
theorem swapR_length : ∀ (r a c : Nat) (l : List Int), (swapR r a c l).length = l.length
  | 0, _, _, _ => rfl
  | r + 1, a, c, l => by rw [swapR, swapR_length]; simp
theorem swapR_app : ∀ (X A Mid Y B : List Int), X.length = Y.length → swapR X.length A.length (A.length + X.length + Mid.length) (A ++ X ++ Mid ++ Y ++ B) = A ++ Y ++ Mid ++ X ++ B
  | [], A, Mid, Y, B, h => by
    obtain rfl : Y = [] := List.length_eq_zero_iff.1 h.symm
    simp [swapR]
  | x :: X, A, Mid, [], B, h => by simp at h
  | x :: X, A, Mid, y :: Y, B, h => by
    have ih := swapR_app X (A ++ [y]) (Mid ++ [x]) Y B (by simpa using h)
    have e1 : (A ++ (x :: X) ++ Mid ++ (y :: Y) ++ B)[A.length + (x :: X).length + Mid.length]! = y := by
      rw [show A ++ (x :: X) ++ Mid ++ (y :: Y) ++ B = (A ++ (x :: X) ++ Mid) ++ y :: (Y ++ B) by simp]
      rw [List.getElem!_eq_getElem?_getD, List.getElem?_append_right (by simp; omega)]
      rw [show A.length + (x :: X).length + Mid.length - (A ++ (x :: X) ++ Mid).length = 0 by simp; omega]
      rfl
    have e2 : (A ++ (x :: X) ++ Mid ++ (y :: Y) ++ B)[A.length]! = x := by
      rw [show A ++ (x :: X) ++ Mid ++ (y :: Y) ++ B = A ++ x :: (X ++ Mid ++ (y :: Y) ++ B) by simp]
      rw [List.getElem!_eq_getElem?_getD, List.getElem?_append_right (Nat.le_refl _), Nat.sub_self]
      rfl
    have e3 : ((A ++ (x :: X) ++ Mid ++ (y :: Y) ++ B).set A.length y).set (A.length + (x :: X).length + Mid.length) x = A ++ [y] ++ X ++ (Mid ++ [x]) ++ Y ++ B := by
      rw [show A ++ (x :: X) ++ Mid ++ (y :: Y) ++ B = A ++ x :: (X ++ Mid ++ (y :: Y) ++ B) by simp]
      rw [List.set_append_right _ _ (Nat.le_refl _), Nat.sub_self, List.set_cons_zero]
      rw [show A ++ y :: (X ++ Mid ++ (y :: Y) ++ B) = (A ++ y :: (X ++ Mid)) ++ y :: (Y ++ B) by simp]
      rw [List.set_append_right _ _ (by simp; omega), show A.length + (x :: X).length + Mid.length - (A ++ y :: (X ++ Mid)).length = 0 by simp; omega, List.set_cons_zero]
      simp
    rw [List.length_cons, swapR, ← (@List.length_cons _ x X), e1, e2, e3]
    rw [show A.length + 1 = (A ++ [y]).length by simp, show A.length + (x :: X).length + Mid.length + 1 = (A ++ [y]).length + X.length + (Mid ++ [x]).length by simp; omega, ih]
    simp

theorem loop298 (hb : b < h.length) (hn : n < 2305843009213693952) (a c k : Nat) (hac : a + k ≤ n) (hc : c + k ≤ n) {Q : Ex → StW → Prop} : ∀ (r i : Nat), i + r = k → ∀ (l : List Int) (lo : List (Nat × AV)) (wr : List Nat), l.length = n → Only b wr →
    (∀ lo wr, Only b wr → Q (.exit 0) ⟨⟨[.sl b 0 n 1 cap, .int .i64 a, .int .i64 c, .int .i64 k, g, .int .i64 k], lo, h.put b (some (.cells (ints (swapR r (a + i) (c + i) l)) 3)), []⟩, wr⟩) →
    W M (.loop b298_0) ⟨⟨[.sl b 0 n 1 cap, .int .i64 a, .int .i64 c, .int .i64 k, g, .int .i64 i], lo, h.put b (some (.cells (ints l) 3)), []⟩, wr⟩ Q
  | 0, i, hi, l, lo, wr, hl, hw, hQ => by
    obtain rfl : i = k := by omega
    refine W.loop ?_
    unfold b298_0
    repeat' first
      | apply W.seq
      | apply SQn
      | apply W.region
      | apply WO.nil
      | apply W.block
      | apply W.ret
      | apply W.exit
      | apply W.skip
      | apply SQr
      | apply SQe
      | apply BQn
      | apply BQr
      | apply BQe
      | (apply BQo; exact rfl)
      | apply LQe
      | apply LQr
      | (apply W.drawro; exact rfl)
      | apply W.draw
      | apply WD.nil
      | (apply WD.gT; exact rfl)
      | (apply WD.gF; exact rfl)
      | (apply WD.sT; exact rfl)
      | (apply WD.sF; exact rfl)
      | (apply WD.sU; exact rfl)
      | (apply WD.pure1; exact rfl)
      | (apply WD.load1; exact rfl; exact rfl; exact rfl)
      | (apply WD.store1; exact rfl; exact rfl; exact rfl)
      | (apply W.condT; exact rfl)
      | (apply W.condF; exact rfl)
      | (apply W.cond; exact rfl; all_goals intro _)
      | (apply WO.lss; exact rfl; exact rfl; all_goals first | (intro _; exfalso; omega) | intro _)
      | (apply WO.add; exact rfl; exact rfl; omega)
      | (apply WO.iav; exact rfl; exact rfl; omega)
      | (apply WO.ias; exact rfl; exact rfl; omega)
      | (apply WO.lda; exact rfl; exact fun _ => rfl; (first | omega | (simp only [List.length_set]; omega) | (simp; omega)); decide; exact rfl; case ia => infer_instance)
      | (apply WO.lsa; exact rfl; (first | exact rfl | assumption | exact at_new | (apply at_old; assumption) | (apply at_put; first | assumption | (simp only [put_length]; assumption))); exact fun _ => rfl; (first | omega | (simp only [List.length_set]; omega) | (simp; omega)); decide; exact rfl; case ia => infer_instance)
      | (apply WO.sta; exact rfl; exact rfl; (first | exact rfl | assumption | exact at_new | (apply at_old; assumption) | (apply at_put; first | assumption | (simp only [put_length]; assumption))); exact fun _ => rfl; (first | omega | (simp only [List.length_set]; omega) | (simp; omega)); exact ⟨rfl, by decide, rfl⟩; exact rfl; case ia => infer_instance)
      | (apply WO.hlv; exact rfl; exact rfl; exact rfl)
      | (apply WO.hpv; exact rfl; exact rfl; exact rfl)
      | (apply WO.hnv; exact rfl; exact rfl; exact rfl)
      | (apply WO.pl; exact rfl; exact rfl)
      | (apply WO.pp; exact rfl; exact rfl)
    · exact hQ _ _ hw
  | r + 1, i, hi, l, lo, wr, hl, hw, hQ => by
    have f1 : ((a : Int) + (i : Int)).toNat = a + i := by omega
    have f2 : ((c : Int) + (i : Int)).toNat = c + i := by omega
    have hli : a + i < l.length := by omega
    have hlc : c + i < l.length := by omega
    refine W.loop ?_
    unfold b298_0
    repeat' first
      | apply W.seq
      | apply SQn
      | apply W.region
      | apply WO.nil
      | apply W.block
      | apply W.ret
      | apply W.exit
      | apply W.skip
      | apply SQr
      | apply SQe
      | apply BQn
      | apply BQr
      | apply BQe
      | (apply BQo; exact rfl)
      | apply LQe
      | apply LQr
      | (apply W.drawro; exact rfl)
      | apply W.draw
      | apply WD.nil
      | (apply WD.gT; exact rfl)
      | (apply WD.gF; exact rfl)
      | (apply WD.sT; exact rfl)
      | (apply WD.sF; exact rfl)
      | (apply WD.sU; exact rfl)
      | (apply WD.pure1; exact rfl)
      | (apply WD.load1; exact rfl; exact rfl; exact rfl)
      | (apply WD.store1; exact rfl; exact rfl; exact rfl)
      | (apply W.condT; exact rfl)
      | (apply W.condF; exact rfl)
      | (apply W.cond; exact rfl; all_goals intro _)
      | (apply WO.lss; exact rfl; exact rfl; all_goals first | (intro _; exfalso; omega) | intro _)
      | (apply WO.add; exact rfl; exact rfl; omega)
      | (apply WO.iav; exact rfl; exact rfl; omega)
      | (apply WO.ias; exact rfl; exact rfl; omega)
      | (apply WO.lda; exact rfl; exact fun _ => rfl; (first | omega | (simp only [List.length_set]; omega) | (simp; omega)); decide; exact rfl; case ia => infer_instance)
      | (apply WO.lsa; exact rfl; (first | exact rfl | assumption | exact at_new | (apply at_old; assumption) | (apply at_put; first | assumption | (simp only [put_length]; assumption))); exact fun _ => rfl; (first | omega | (simp only [List.length_set]; omega) | (simp; omega)); decide; exact rfl; case ia => infer_instance)
      | (apply WO.sta; exact rfl; exact rfl; (first | exact rfl | assumption | exact at_new | (apply at_old; assumption) | (apply at_put; first | assumption | (simp only [put_length]; assumption))); exact fun _ => rfl; (first | omega | (simp only [List.length_set]; omega) | (simp; omega)); exact ⟨rfl, by decide, rfl⟩; exact rfl; case ia => infer_instance)
      | (apply WO.hlv; exact rfl; exact rfl; exact rfl)
      | (apply WO.hpv; exact rfl; exact rfl; exact rfl)
      | (apply WO.hnv; exact rfl; exact rfl; exact rfl)
      | (apply WO.pl; exact rfl; exact rfl)
      | (apply WO.pp; exact rfl; exact rfl)
    · refine LQn ?_
      rw [put_put, put_put, f1, f2]
      refine loop298 hb hn a c k hac hc r (i + 1) (by omega) _ _ _ (by simp [hl]) hw.cons.cons hQ

/-- The machine knows none of these by a contract. -/
structure CS (M : Mach) : Prop where
  ft : M.FT = FT
  n99 : ∀ ars h, M.ext 99 ars h = none
  n174 : ∀ ars h, M.ext 174 ars h = none
  n221 : ∀ ars h, M.ext 221 ars h = none
  n222 : ∀ ars h, M.ext 222 ars h = none
  n261 : ∀ ars h, M.ext 261 ars h = none
  n298 : ∀ ars h, M.ext 298 ars h = none

abbrev fn (k : Nat) : AV := .fn (.func k) [] []

theorem ct_of_run {k : Nat} {ars : List AV} {hp : Heap} {r : HR} (he : ∀ ars h, M.ext k ars h = none) (hr : Run M k ars hp r) : CT M (fn k) ars hp r := CT.run (he _ _) (by simpa using hr)

theorem r298 (C : CS M) (hb : b < h.length) (hn : n < 2305843009213693952) {A X Mid Y B : List Int} (hX : X.length = Y.length) (hl : (A ++ X ++ Mid ++ Y ++ B).length = n) :
    ∃ wr, Only b wr ∧ CT M (fn 298) [.sl b 0 n 1 cap, .int .i64 A.length, .int .i64 (A.length + X.length + Mid.length : Nat), .int .i64 X.length, g] (h.put b (some (.cells (ints (A ++ X ++ Mid ++ Y ++ B)) 3))) ⟨.tup [], h.put b (some (.cells (ints (A ++ Y ++ Mid ++ X ++ B)) 3)), wr⟩ := by
  have hl' : A.length + X.length + Mid.length + Y.length + B.length = n := by simp at hl; omega
  obtain ⟨l', wr, hw, rfl, hr⟩ := run_put (M := M) (l := A ++ X ++ Mid ++ Y ++ B) (e := 3) (f := fun x => [.int .i64 x]) (P := fun l' => l' = A ++ Y ++ Mid ++ X ++ B)
    (ars := [.sl b 0 n 1 cap, .int .i64 A.length, .int .i64 (A.length + X.length + Mid.length : Nat), .int .i64 X.length, g]) (by rw [C.ft]; exact ft298) (by simp) hb (fun _ => rfl) (by
      unfold b298
      simp only [List.map_cons, List.map_nil, List.getElem?_cons_zero, List.getElem?_cons_succ, List.getElem?_nil, Option.getD_some, Option.getD_none]
      repeat' first
        | apply W.seq
        | apply SQn
        | apply W.region
        | apply WO.nil
        | apply W.block
        | apply W.ret
        | apply W.exit
        | apply W.skip
        | apply SQr
        | apply SQe
        | apply BQn
        | apply BQr
        | apply BQe
        | (apply BQo; exact rfl)
        | apply LQe
        | apply LQr
        | (apply W.condT; exact rfl)
        | (apply W.condF; exact rfl)
        | (apply W.cond; exact rfl; all_goals intro _)
        | (apply WO.pl; exact rfl; exact rfl)
        | (apply WO.pp; exact rfl; exact rfl)
      refine loop298 hb hn A.length (A.length + X.length + Mid.length) X.length (by omega) (by omega) X.length 0 (by omega) _ _ _ hl Only.nil (fun lo wr hw => ?_)
      repeat' first
        | apply W.seq
        | apply SQn
        | apply W.region
        | apply WO.nil
        | apply W.block
        | apply W.ret
        | apply W.exit
        | apply W.skip
        | apply SQr
        | apply SQe
        | apply BQn
        | apply BQr
        | apply BQe
        | (apply BQo; exact rfl)
        | apply LQe
        | apply LQr
        | (apply W.condT; exact rfl)
        | (apply W.condF; exact rfl)
        | (apply W.cond; exact rfl; all_goals intro _)
        | (apply WO.pl; exact rfl; exact rfl)
        | (apply WO.pp; exact rfl; exact rfl)
      exact ⟨.inl rfl, rfl, _, rfl, hw, by rw [Nat.add_zero, Nat.add_zero, swapR_app X A Mid Y B hX]⟩)
  exact ⟨wr, hw, ct_of_run C.n298 hr⟩

theorem loop261 (C : CS M) (hb : b < h.length) (hn : n < 2305843009213693952) (a1 a3 : AV) (m : Nat) {Q : Ex → StW → Prop} : ∀ (k : Nat) (A U V B : List Int) (lo : List (Nat × AV)) (wr : List Nat), U.length + V.length ≤ k → U ≠ [] → V ≠ [] → A.length + U.length = m → (A ++ U ++ V ++ B).length = n → Only b wr →
    (∀ A2 U2 V2 B2 lo wr, Only b wr → U2.length = V2.length → A2.length + U2.length = m → (A2 ++ U2 ++ V2 ++ B2).length = n → A2 ++ V2 ++ U2 ++ B2 = A ++ V ++ U ++ B →
      Q (.exit 0) ⟨⟨[.sl b 0 n 1 cap, a1, .int .i64 m, a3, g, .int .i64 U2.length, .int .i64 V2.length], lo, h.put b (some (.cells (ints (A2 ++ U2 ++ V2 ++ B2)) 3)), []⟩, wr⟩) →
    W M (.loop b261_0) ⟨⟨[.sl b 0 n 1 cap, a1, .int .i64 m, a3, g, .int .i64 U.length, .int .i64 V.length], lo, h.put b (some (.cells (ints (A ++ U ++ V ++ B)) 3)), []⟩, wr⟩ Q
  | 0, A, U, V, B, lo, wr, hk, hU, hV, hm, hl, hw, hQ => absurd (List.length_eq_zero_iff.1 (by omega)) hU
  | k + 1, A, U, V, B, lo, wr, hk, hU, hV, hm, hl, hw, hQ => by
    have hu : 0 < U.length := List.length_pos_iff.2 hU
    have hv : 0 < V.length := List.length_pos_iff.2 hV
    have hl' : A.length + U.length + V.length + B.length = n := by simp at hl; omega
    refine W.loop ?_
    rcases Nat.lt_trichotomy U.length V.length with hlt | heq | hgt
    · obtain ⟨V1, V2, rfl, hV2⟩ : ∃ V1 V2, V = V1 ++ V2 ∧ V2.length = U.length := ⟨V.take (V.length - U.length), V.drop (V.length - U.length), by simp, by simp; omega⟩
      have hV1 : 0 < V1.length := by simp at hlt; omega
      obtain ⟨wr', hw', hc⟩ := r298 (g := g) (cap := cap) C hb hn (A := A) (X := U) (Mid := V1) (Y := V2) (B := B) hV2.symm (by simp at hl ⊢; omega)
      have hc' : CT M (fn 298) [.sl b 0 n 1 cap, .int .i64 ((m : Int) - (U.length : Int)), .int .i64 ((m : Int) + ((V1 ++ V2).length : Int) - (U.length : Int)), .int .i64 U.length, g] (h.put b (some (.cells (ints (A ++ U ++ (V1 ++ V2) ++ B)) 3))) ⟨.tup [], h.put b (some (.cells (ints (A ++ V2 ++ V1 ++ U ++ B)) 3)), wr'⟩ := by
        rw [show (m : Int) - (U.length : Int) = (A.length : Int) by omega, show (m : Int) + ((V1 ++ V2).length : Int) - (U.length : Int) = ((A.length + U.length + V1.length : Nat) : Int) by simp; omega]
        simpa only [List.append_assoc] using hc
      unfold b261_0
      repeat' first
        | apply W.seq
        | apply SQn
        | apply W.region
        | apply WO.nil
        | apply W.block
        | apply W.ret
        | apply W.exit
        | apply W.skip
        | apply SQr
        | apply SQe
        | apply BQn
        | apply BQr
        | apply BQe
        | (apply BQo; exact rfl)
        | apply LQe
        | apply LQr
        | (apply W.condT; exact rfl)
        | (apply W.condF; exact rfl)
        | (apply W.cond; exact rfl; all_goals intro _)
        | (apply WO.gtr; exact rfl; exact rfl; all_goals first | (intro _; exfalso; omega) | intro _)
        | (apply WO.neq; exact rfl; exact rfl; all_goals first | (intro _; exfalso; omega) | intro _)
        | (apply WO.add; exact rfl; exact rfl; omega)
        | (apply WO.sub; exact rfl; exact rfl; omega)
        | (apply WO.ct; exact rfl; exact rfl; first | exact hc')
        | (apply WO.ctn; exact rfl; exact rfl; first | exact hc')
        | (apply WD.ct; exact rfl; exact rfl; exact rfl; first | exact hc')
        | (apply WO.sneq; exact rfl; exact rfl; all_goals first | (intro h; exact absurd h (by decide)) | (intro h; exact absurd rfl h) | (intro h; contradiction) | intro _)
        | (apply WO.clb; exact rfl; exact rfl; exact rfl; all_goals first | (intro h; exact absurd h (by decide)) | intro _)
        | (apply WO.cll; exact rfl; exact rfl; exact rfl)
        | (apply WO.pl; exact rfl; exact rfl)
        | (apply WO.pp; exact rfl; exact rfl)
      refine LQn ?_
      rw [show (((V1 ++ V2).length : Int) - (U.length : Int)) = (V1.length : Int) by simp; omega, show (U.length : Int) = (V2.length : Int) by omega]
      rw [show A ++ V2 ++ V1 ++ U ++ B = A ++ V2 ++ V1 ++ (U ++ B) by simp]
      refine loop261 C hb hn a1 a3 m k A V2 V1 (U ++ B) _ _ (by simp at hk; omega) (List.length_pos_iff.1 (by omega)) (List.length_pos_iff.1 hV1) (by omega) (by simp at hl ⊢; omega) (hw'.app hw) (fun A2 U2 W2 B2 lo wr g1 g2 g3 g4 g5 => ?_)
      exact hQ A2 U2 W2 B2 lo wr g1 g2 g3 g4 (by rw [g5]; simp)
    · unfold b261_0
      repeat' first
        | apply W.seq
        | apply SQn
        | apply W.region
        | apply WO.nil
        | apply W.block
        | apply W.ret
        | apply W.exit
        | apply W.skip
        | apply SQr
        | apply SQe
        | apply BQn
        | apply BQr
        | apply BQe
        | (apply BQo; exact rfl)
        | apply LQe
        | apply LQr
        | (apply W.condT; exact rfl)
        | (apply W.condF; exact rfl)
        | (apply W.cond; exact rfl; all_goals intro _)
        | (apply WO.gtr; exact rfl; exact rfl; all_goals first | (intro _; exfalso; omega) | intro _)
        | (apply WO.neq; exact rfl; exact rfl; all_goals first | (intro _; exfalso; omega) | intro _)
        | (apply WO.add; exact rfl; exact rfl; omega)
        | (apply WO.sub; exact rfl; exact rfl; omega)
        | (apply WO.sneq; exact rfl; exact rfl; all_goals first | (intro h; exact absurd h (by decide)) | (intro h; exact absurd rfl h) | (intro h; contradiction) | intro _)
        | (apply WO.clb; exact rfl; exact rfl; exact rfl; all_goals first | (intro h; exact absurd h (by decide)) | intro _)
        | (apply WO.cll; exact rfl; exact rfl; exact rfl)
        | (apply WO.pl; exact rfl; exact rfl)
        | (apply WO.pp; exact rfl; exact rfl)
      exact hQ A U V B _ _ hw heq hm hl rfl
    · obtain ⟨U1, U2, rfl, hU1⟩ : ∃ U1 U2, U = U1 ++ U2 ∧ U1.length = V.length := ⟨U.take V.length, U.drop V.length, by simp, by simp; omega⟩
      have hU2 : 0 < U2.length := by simp at hgt; omega
      obtain ⟨wr', hw', hc⟩ := r298 (g := g) (cap := cap) C hb hn (A := A) (X := U1) (Mid := U2) (Y := V) (B := B) hU1 (by simp at hl ⊢; omega)
      have hc' : CT M (fn 298) [.sl b 0 n 1 cap, .int .i64 ((m : Int) - ((U1 ++ U2).length : Int)), .int .i64 m, .int .i64 V.length, g] (h.put b (some (.cells (ints (A ++ (U1 ++ U2) ++ V ++ B)) 3))) ⟨.tup [], h.put b (some (.cells (ints (A ++ V ++ U2 ++ U1 ++ B)) 3)), wr'⟩ := by
        rw [show (m : Int) - ((U1 ++ U2).length : Int) = (A.length : Int) by omega, show (m : Int) = ((A.length + U1.length + U2.length : Nat) : Int) by simp at hm ⊢; omega, ← hU1]
        simpa only [List.append_assoc] using hc
      unfold b261_0
      repeat' first
        | apply W.seq
        | apply SQn
        | apply W.region
        | apply WO.nil
        | apply W.block
        | apply W.ret
        | apply W.exit
        | apply W.skip
        | apply SQr
        | apply SQe
        | apply BQn
        | apply BQr
        | apply BQe
        | (apply BQo; exact rfl)
        | apply LQe
        | apply LQr
        | (apply W.condT; exact rfl)
        | (apply W.condF; exact rfl)
        | (apply W.cond; exact rfl; all_goals intro _)
        | (apply WO.gtr; exact rfl; exact rfl; all_goals first | (intro _; exfalso; omega) | intro _)
        | (apply WO.neq; exact rfl; exact rfl; all_goals first | (intro _; exfalso; omega) | intro _)
        | (apply WO.add; exact rfl; exact rfl; omega)
        | (apply WO.sub; exact rfl; exact rfl; omega)
        | (apply WO.ct; exact rfl; exact rfl; first | exact hc')
        | (apply WO.ctn; exact rfl; exact rfl; first | exact hc')
        | (apply WD.ct; exact rfl; exact rfl; exact rfl; first | exact hc')
        | (apply WO.sneq; exact rfl; exact rfl; all_goals first | (intro h; exact absurd h (by decide)) | (intro h; exact absurd rfl h) | (intro h; contradiction) | intro _)
        | (apply WO.clb; exact rfl; exact rfl; exact rfl; all_goals first | (intro h; exact absurd h (by decide)) | intro _)
        | (apply WO.cll; exact rfl; exact rfl; exact rfl)
        | (apply WO.pl; exact rfl; exact rfl)
        | (apply WO.pp; exact rfl; exact rfl)
      refine LQn ?_
      rw [show (((U1 ++ U2).length : Int) - (V.length : Int)) = (U2.length : Int) by simp; omega, show (V.length : Int) = (U1.length : Int) by omega]
      rw [show A ++ V ++ U2 ++ U1 ++ B = (A ++ V) ++ U2 ++ U1 ++ B by simp]
      refine loop261 C hb hn a1 a3 m k (A ++ V) U2 U1 B _ _ (by simp at hk; omega) (List.length_pos_iff.1 hU2) (List.length_pos_iff.1 (by omega)) (by simp at hm ⊢; omega) (by simp at hl ⊢; omega) (hw'.app hw) (fun A2 X2 W2 B2 lo wr g1 g2 g3 g4 g5 => ?_)
      exact hQ A2 X2 W2 B2 lo wr g1 g2 g3 g4 (by rw [g5]; simp)

theorem r261 (C : CS M) (hb : b < h.length) (hn : n < 2305843009213693952) {A U V B : List Int} (hU : U ≠ []) (hV : V ≠ []) (hl : (A ++ U ++ V ++ B).length = n) :
    ∃ wr, Only b wr ∧ CT M (fn 261) [.sl b 0 n 1 cap, .int .i64 A.length, .int .i64 (A.length + U.length : Nat), .int .i64 (A.length + U.length + V.length : Nat), g] (h.put b (some (.cells (ints (A ++ U ++ V ++ B)) 3))) ⟨.tup [], h.put b (some (.cells (ints (A ++ V ++ U ++ B)) 3)), wr⟩ := by
  have hl' : A.length + U.length + V.length + B.length = n := by simp at hl; omega
  obtain ⟨l', wr, hw, rfl, hr⟩ := run_put (M := M) (l := A ++ U ++ V ++ B) (e := 3) (f := fun x => [.int .i64 x]) (P := fun l' => l' = A ++ V ++ U ++ B)
    (ars := [.sl b 0 n 1 cap, .int .i64 A.length, .int .i64 (A.length + U.length : Nat), .int .i64 (A.length + U.length + V.length : Nat), g]) (by rw [C.ft]; exact ft261) (by simp) hb (fun _ => rfl) (by
      unfold b261
      simp only [List.map_cons, List.map_nil, List.getElem?_cons_zero, List.getElem?_cons_succ, List.getElem?_nil, Option.getD_some, Option.getD_none]
      repeat' first
        | apply W.seq
        | apply SQn
        | apply W.region
        | apply WO.nil
        | apply W.block
        | apply W.ret
        | apply W.exit
        | apply W.skip
        | apply SQr
        | apply SQe
        | apply BQn
        | apply BQr
        | apply BQe
        | (apply BQo; exact rfl)
        | apply LQe
        | apply LQr
        | (apply W.condT; exact rfl)
        | (apply W.condF; exact rfl)
        | (apply W.cond; exact rfl; all_goals intro _)
        | (apply WO.sub; exact rfl; exact rfl; omega)
        | (apply WO.clb; exact rfl; exact rfl; exact rfl; all_goals first | (intro h; exact absurd h (by decide)) | intro _)
        | (apply WO.cll; exact rfl; exact rfl; exact rfl)
        | (apply WO.pl; exact rfl; exact rfl)
        | (apply WO.pp; exact rfl; exact rfl)
      rw [show (((A.length + U.length : Nat) : Int) - (A.length : Int)) = (U.length : Int) by omega, show (((A.length + U.length + V.length : Nat) : Int) - ((A.length + U.length : Nat) : Int)) = (V.length : Int) by omega]
      refine loop261 C hb hn _ _ (A.length + U.length) (U.length + V.length) A U V B _ _ (Nat.le_refl _) hU hV rfl hl Only.nil (fun A2 U2 V2 B2 lo wr g1 g2 g3 g4 g5 => ?_)
      obtain ⟨wr', hw', hc⟩ := r298 (g := g) (cap := cap) C hb hn (A := A2) (X := U2) (Mid := []) (Y := V2) (B := B2) g2 (by simpa using g4)
      have hc' : CT M (fn 298) [.sl b 0 n 1 cap, .int .i64 (((A.length + U.length : Nat) : Int) - (U2.length : Int)), .int .i64 (A.length + U.length : Nat), .int .i64 U2.length, g] (h.put b (some (.cells (ints (A2 ++ U2 ++ V2 ++ B2)) 3))) ⟨.tup [], h.put b (some (.cells (ints (A2 ++ V2 ++ U2 ++ B2)) 3)), wr'⟩ := by
        rw [show ((A.length + U.length : Nat) : Int) - (U2.length : Int) = (A2.length : Int) by omega, ← g3]
        simpa using hc
      repeat' first
        | apply W.seq
        | apply SQn
        | apply W.region
        | apply WO.nil
        | apply W.block
        | apply W.ret
        | apply W.exit
        | apply W.skip
        | apply SQr
        | apply SQe
        | apply BQn
        | apply BQr
        | apply BQe
        | (apply BQo; exact rfl)
        | apply LQe
        | apply LQr
        | (apply W.condT; exact rfl)
        | (apply W.condF; exact rfl)
        | (apply W.cond; exact rfl; all_goals intro _)
        | (apply WO.sub; exact rfl; exact rfl; omega)
        | (apply WO.ct; exact rfl; exact rfl; first | exact hc')
        | (apply WO.ctn; exact rfl; exact rfl; first | exact hc')
        | (apply WD.ct; exact rfl; exact rfl; exact rfl; first | exact hc')
        | (apply WO.clb; exact rfl; exact rfl; exact rfl; all_goals first | (intro h; exact absurd h (by decide)) | intro _)
        | (apply WO.cll; exact rfl; exact rfl; exact rfl)
        | (apply WO.pl; exact rfl; exact rfl)
        | (apply WO.pp; exact rfl; exact rfl)
      exact ⟨.inl rfl, rfl, _, rfl, hw'.app g1, g5⟩)
  exact ⟨wr, hw, ct_of_run C.n261 hr⟩

/-- What is asked of the comparison: a number, the heap as it was. -/
def Cmp (M : Mach) (h : Heap) (b : Nat) (g : AV) (ok : Int → Prop) (cf : Int → Int → Int) : Prop :=
  ∀ x y l, ok x → ok y → CT M g [.int .i64 x, .int .i64 y] (h.put b (some (.cells (ints l) 3))) ⟨.int .i64 (cf x y), h.put b (some (.cells (ints l) 3)), []⟩

theorem get_at {A B : List Int} {x : Int} {i : Nat} (hi : i = A.length) : (A ++ x :: B)[i]! = x := by
  subst hi
  rw [List.getElem!_eq_getElem?_getD, List.getElem?_append_right (Nat.le_refl _), Nat.sub_self]
  rfl
theorem swap_down {A B : List Int} {x y : Int} {j : Nat} (hj : j = A.length) : ((A ++ y :: x :: B).set (j + 1) y).set j x = A ++ x :: y :: B := by
  subst hj
  rw [show A ++ y :: x :: B = (A ++ [y]) ++ x :: B by simp, List.set_append_right _ _ (by simp), show A.length + 1 - (A ++ [y]).length = 0 by simp, List.set_cons_zero]
  rw [show (A ++ [y]) ++ y :: B = A ++ y :: y :: B by simp, List.set_append_right _ _ (Nat.le_refl _), Nat.sub_self, List.set_cons_zero]
theorem swap_up {A B : List Int} {x y : Int} {j : Nat} (hj : j = A.length) : ((A ++ x :: y :: B).set j y).set (j + 1) x = A ++ y :: x :: B := by
  subst hj
  rw [List.set_append_right _ _ (Nat.le_refl _), Nat.sub_self, List.set_cons_zero]
  rw [show A ++ y :: y :: B = (A ++ [y]) ++ y :: B by simp, List.set_append_right _ _ (by simp), show A.length + 1 - (A ++ [y]).length = 0 by simp, List.set_cons_zero]
  simp

variable {key : Int → Int} {ok : Int → Prop} {cf : Int → Int → Int}

set_option maxHeartbeats 1000000 in
theorem loop221_0 (hb : b < h.length) (hn : n < 2305843009213693952) (hc : Cmp M h b g ok cf) (hcf : ∀ x y, ok x → ok y → (cf x y < 0 ↔ key y < key x)) (a2 a4 : AV) (A T : List Int) (x : Int) (hx : ok x) {Q : Ex → StW → Prop} : ∀ (k : Nat) (S1 S2 : List Int) (lo : List (Nat × AV)) (wr : List Nat), S1.length = k → (A ++ S1 ++ x :: S2 ++ T).length = n → Only b wr → (∀ y ∈ S1 ++ S2, y < x ∧ ok y) → Sd key (S1 ++ S2) → (∀ y ∈ S2, Lt key x y) →
    (∀ S a5 lo wr L, Only b wr → Sd key S → S.Perm (x :: (S1 ++ S2)) → L = A ++ S ++ T → Q (.exit 2) ⟨⟨[.sl b 0 n 1 cap, .int .i64 A.length, a2, g, a4, a5], lo, h.put b (some (.cells (ints L) 3)), []⟩, wr⟩) →
    W M (.loop b221_0) ⟨⟨[.sl b 0 n 1 cap, .int .i64 A.length, a2, g, a4, .int .i64 (A.length + S1.length : Nat)], lo, h.put b (some (.cells (ints (A ++ S1 ++ x :: S2 ++ T)) 3)), []⟩, wr⟩ Q
  | 0, S1, S2, lo, wr, hk, hl, hw, ho, hs, h2, hQ => by
    obtain rfl := List.length_eq_zero_iff.1 hk
    refine W.loop ?_
    unfold b221_0
    repeat' first
      | apply W.seq
      | apply SQn
      | apply W.region
      | apply WO.nil
      | apply W.block
      | apply W.ret
      | apply W.exit
      | apply W.skip
      | apply SQr
      | apply SQe
      | apply BQn
      | apply BQr
      | apply BQe
      | (apply BQo; exact rfl)
      | apply LQe
      | apply LQr
      | (apply W.drawro; exact rfl)
      | apply W.draw
      | apply WD.nil
      | (apply WD.gT; exact rfl)
      | (apply WD.gF; exact rfl)
      | (apply WD.sT; exact rfl)
      | (apply WD.sF; exact rfl)
      | (apply WD.sU; exact rfl)
      | (apply WD.pure1; exact rfl)
      | (apply WD.load1; exact rfl; exact rfl; exact rfl)
      | (apply WD.store1; exact rfl; exact rfl; exact rfl)
      | (apply WD.clb; exact rfl; exact rfl; exact rfl; exact rfl; all_goals first | (intro h; exact absurd h (by decide)) | intro _)
      | (apply WD.cl0; exact rfl; exact rfl; exact rfl; exact rfl)
      | (apply WD.cl1; exact rfl; exact rfl; exact rfl; exact rfl)
      | (apply W.condT; exact rfl)
      | (apply W.condF; exact rfl)
      | (apply W.cond; exact rfl; all_goals intro _)
      | (apply WO.gT; exact rfl)
      | (apply WO.gF; exact rfl)
      | (apply WO.sT; exact rfl)
      | (apply WO.sF; exact rfl)
      | (apply WO.sU; exact rfl)
      | (apply WO.lss; exact rfl; exact rfl; all_goals first | (intro _; exfalso; omega) | intro _)
      | (apply WO.gtr; exact rfl; exact rfl; all_goals first | (intro _; exfalso; omega) | intro _)
      | (apply WO.pkT; exact rfl; exact rfl)
      | (apply WO.pkF; exact rfl; exact rfl)
      | (apply WO.sub; exact rfl; exact rfl; omega)
      | (apply WO.iav; exact rfl; exact rfl; omega)
      | (apply WO.ias; exact rfl; exact rfl; omega)
      | (apply WO.lda; exact rfl; exact fun _ => rfl; (first | omega | (simp only [List.length_set]; omega) | (simp; omega)); decide; exact rfl; case ia => infer_instance)
      | (apply WO.lsa; exact rfl; (first | exact rfl | assumption | exact at_new | (apply at_old; assumption) | (apply at_put; first | assumption | (simp only [put_length]; assumption))); exact fun _ => rfl; (first | omega | (simp only [List.length_set]; omega) | (simp; omega)); decide; exact rfl; case ia => infer_instance)
      | (apply WO.sta; exact rfl; exact rfl; (first | exact rfl | assumption | exact at_new | (apply at_old; assumption) | (apply at_put; first | assumption | (simp only [put_length]; assumption))); exact fun _ => rfl; (first | omega | (simp only [List.length_set]; omega) | (simp; omega)); exact ⟨rfl, by decide, rfl⟩; exact rfl; case ia => infer_instance)
      | (apply WO.clb; exact rfl; exact rfl; exact rfl; all_goals first | (intro h; exact absurd h (by decide)) | intro _)
      | (apply WO.cll; exact rfl; exact rfl; exact rfl)
      | (apply WO.hlv; exact rfl; exact rfl; exact rfl)
      | (apply WO.hpv; exact rfl; exact rfl; exact rfl)
      | (apply WO.hnv; exact rfl; exact rfl; exact rfl)
      | (apply WO.pl; exact rfl; exact rfl)
      | (apply WO.pp; exact rfl; exact rfl)
    · exact hQ (x :: S2) _ _ _ _ hw (by simpa using ins_stop (S1 := []) (x := x) (by simpa using hs) h2 (by simp)) (by simp) (by simp)
  | k + 1, S1, S2, lo, wr, hk, hl, hw, ho, hs, h2, hQ => by
    obtain ⟨R, y, rfl⟩ : ∃ R y, S1 = R ++ [y] := by
      rcases List.eq_nil_or_concat S1 with rfl | ⟨R, y, rfl⟩
      · simp at hk
      · exact ⟨R, y, by simp⟩
    have hy := ho y (by simp)
    have hl' : (A ++ (R ++ [y]) ++ x :: S2 ++ T).length = n := hl
    have hln : A.length + R.length + S2.length + T.length + 2 = n := by simp at hl; omega
    have eL : A ++ (R ++ [y]) ++ x :: S2 ++ T = (A ++ R) ++ y :: x :: (S2 ++ T) := by simp
    have eJ : (((A.length + (R ++ [y]).length : Nat) : Int)).toNat = (A ++ R).length + 1 := by simp; omega
    have eI : (((A.length + (R ++ [y]).length : Nat) : Int) - 1).toNat = (A ++ R).length := by simp; omega
    have gx : (A ++ (R ++ [y]) ++ x :: S2 ++ T)[(((A.length + (R ++ [y]).length : Nat) : Int)).toNat]! = x := by
      rw [eL, eJ, show (A ++ R) ++ y :: x :: (S2 ++ T) = (A ++ R ++ [y]) ++ x :: (S2 ++ T) by simp]
      exact get_at (by simp <;> omega)
    have gy : (A ++ (R ++ [y]) ++ x :: S2 ++ T)[(((A.length + (R ++ [y]).length : Nat) : Int) - 1).toNat]! = y := by
      rw [eL, eI]; exact get_at rfl
    have hcc : CT M g [.int .i64 (A ++ (R ++ [y]) ++ x :: S2 ++ T)[(((A.length + (R ++ [y]).length : Nat) : Int)).toNat]!, .int .i64 (A ++ (R ++ [y]) ++ x :: S2 ++ T)[(((A.length + (R ++ [y]).length : Nat) : Int) - 1).toNat]!] (h.put b (some (.cells (ints (A ++ (R ++ [y]) ++ x :: S2 ++ T)) 3))) ⟨.int .i64 (cf x y), h.put b (some (.cells (ints (A ++ (R ++ [y]) ++ x :: S2 ++ T)) 3)), []⟩ := by
      rw [gx, gy]; exact hc x y _ hx hy.2
    have hiff := hcf x y hx hy.2
    have b1 : (((A.length + (R ++ [y]).length : Nat) : Int)).toNat < (A ++ (R ++ [y]) ++ x :: S2 ++ T).length := by rw [hl']; simp; omega
    have b2 : (((A.length + (R ++ [y]).length : Nat) : Int) - 1).toNat < (A ++ (R ++ [y]) ++ x :: S2 ++ T).length := by rw [hl']; simp; omega
    have c1 : (A.length : Int) < ((A.length + (R ++ [y]).length : Nat) : Int) := by simp; omega
    have c2 : ((A.length + (R ++ [y]).length : Nat) : Int) < n := by simp; omega
    refine W.loop ?_
    by_cases hlt : cf x y < 0
    · have hxy : Lt key x y := (Lt.iff hy.1).2 (hiff.1 hlt)
      unfold b221_0
      repeat' first
        | apply W.seq
        | apply SQn
        | apply W.region
        | apply WO.nil
        | apply W.block
        | apply W.ret
        | apply W.exit
        | apply W.skip
        | apply SQr
        | apply SQe
        | apply BQn
        | apply BQr
        | apply BQe
        | (apply BQo; exact rfl)
        | apply LQe
        | apply LQr
        | (apply W.drawro; exact rfl)
        | apply W.draw
        | apply WD.nil
        | (apply WD.gT; exact rfl)
        | (apply WD.gF; exact rfl)
        | (apply WD.sT; exact rfl)
        | (apply WD.sF; exact rfl)
        | (apply WD.sU; exact rfl)
        | (apply WD.pure1; exact rfl)
        | (apply WD.load1; exact rfl; exact rfl; exact rfl)
        | (apply WD.store1; exact rfl; exact rfl; exact rfl)
        | (apply WD.clb; exact rfl; exact rfl; exact rfl; exact rfl; all_goals first | (intro h; exact absurd h (by decide)) | intro _)
        | (apply WD.cl0; exact rfl; exact rfl; exact rfl; exact rfl)
        | (apply WD.cl1; exact rfl; exact rfl; exact rfl; exact rfl)
        | (apply W.condT; exact rfl)
        | (apply W.condF; exact rfl)
        | (apply W.cond; exact rfl; all_goals intro _)
        | (apply WO.gT; exact rfl)
        | (apply WO.gF; exact rfl)
        | (apply WO.sT; exact rfl)
        | (apply WO.sF; exact rfl)
        | (apply WO.sU; exact rfl)
        | (apply WO.lss; exact rfl; exact rfl; all_goals first | (intro _; exfalso; omega) | intro _)
        | (apply WO.gtr; exact rfl; exact rfl; all_goals first | (intro _; exfalso; omega) | intro _)
        | (apply WO.pkT; exact rfl; exact rfl)
        | (apply WO.pkF; exact rfl; exact rfl)
        | (apply WO.sub; exact rfl; exact rfl; omega)
        | (apply WO.ct; exact rfl; exact rfl; first | exact hcc)
        | (apply WO.ctn; exact rfl; exact rfl; first | exact hcc)
        | (apply WD.ct; exact rfl; exact rfl; exact rfl; first | exact hcc)
        | (apply WO.iav; exact rfl; exact rfl; omega)
        | (apply WO.ias; exact rfl; exact rfl; omega)
        | (apply WO.lda; exact rfl; exact fun _ => rfl; (first | omega | (simp only [List.length_set]; omega) | (simp; omega)); decide; exact rfl; case ia => infer_instance)
        | (apply WO.lsa; exact rfl; (first | exact rfl | assumption | exact at_new | (apply at_old; assumption) | (apply at_put; first | assumption | (simp only [put_length]; assumption))); exact fun _ => rfl; (first | omega | (simp only [List.length_set]; omega) | (simp; omega)); decide; exact rfl; case ia => infer_instance)
        | (apply WO.sta; exact rfl; exact rfl; (first | exact rfl | assumption | exact at_new | (apply at_old; assumption) | (apply at_put; first | assumption | (simp only [put_length]; assumption))); exact fun _ => rfl; (first | omega | (simp only [List.length_set]; omega) | (simp; omega)); exact ⟨rfl, by decide, rfl⟩; exact rfl; case ia => infer_instance)
        | (apply WO.clb; exact rfl; exact rfl; exact rfl; all_goals first | (intro h; exact absurd h (by decide)) | intro _)
        | (apply WO.cll; exact rfl; exact rfl; exact rfl)
        | (apply WO.hlv; exact rfl; exact rfl; exact rfl)
        | (apply WO.hpv; exact rfl; exact rfl; exact rfl)
        | (apply WO.hnv; exact rfl; exact rfl; exact rfl)
        | (apply WO.pl; exact rfl; exact rfl)
        | (apply WO.pp; exact rfl; exact rfl)
      refine LQn ?_
      rw [put_put, put_put, gx, gy, eJ, eI, eL, swap_down rfl]
      rw [show A ++ R ++ x :: y :: (S2 ++ T) = A ++ R ++ x :: (y :: S2) ++ T by simp]
      rw [show ((A.length + (R ++ [y]).length : Nat) : Int) - 1 = ((A.length + R.length : Nat) : Int) by simp; omega]
      refine loop221_0 hb hn hc hcf a2 a4 A T x hx k R (y :: S2) _ _ (by simpa using hk) (by simp; omega) hw.cons.cons (fun z hz => ho z (by simpa using hz)) (by simpa using hs) (fun z hz => ?_) (fun S a5 lo wr L g1 g2 g3 g4 => ?_)
      · rcases List.mem_cons.1 hz with rfl | hz
        · exact hxy
        · exact h2 z hz
      · exact hQ S a5 lo wr L g1 g2 (by simpa using g3) g4
    · have hyx : Lt key y x := Lt.tot hy.1 (fun h => hlt (hiff.2 ((Lt.iff hy.1).1 h)))
      unfold b221_0
      repeat' first
        | apply W.seq
        | apply SQn
        | apply W.region
        | apply WO.nil
        | apply W.block
        | apply W.ret
        | apply W.exit
        | apply W.skip
        | apply SQr
        | apply SQe
        | apply BQn
        | apply BQr
        | apply BQe
        | (apply BQo; exact rfl)
        | apply LQe
        | apply LQr
        | (apply W.drawro; exact rfl)
        | apply W.draw
        | apply WD.nil
        | (apply WD.gT; exact rfl)
        | (apply WD.gF; exact rfl)
        | (apply WD.sT; exact rfl)
        | (apply WD.sF; exact rfl)
        | (apply WD.sU; exact rfl)
        | (apply WD.pure1; exact rfl)
        | (apply WD.load1; exact rfl; exact rfl; exact rfl)
        | (apply WD.store1; exact rfl; exact rfl; exact rfl)
        | (apply WD.clb; exact rfl; exact rfl; exact rfl; exact rfl; all_goals first | (intro h; exact absurd h (by decide)) | intro _)
        | (apply WD.cl0; exact rfl; exact rfl; exact rfl; exact rfl)
        | (apply WD.cl1; exact rfl; exact rfl; exact rfl; exact rfl)
        | (apply W.condT; exact rfl)
        | (apply W.condF; exact rfl)
        | (apply W.cond; exact rfl; all_goals intro _)
        | (apply WO.gT; exact rfl)
        | (apply WO.gF; exact rfl)
        | (apply WO.sT; exact rfl)
        | (apply WO.sF; exact rfl)
        | (apply WO.sU; exact rfl)
        | (apply WO.lss; exact rfl; exact rfl; all_goals first | (intro _; exfalso; omega) | intro _)
        | (apply WO.gtr; exact rfl; exact rfl; all_goals first | (intro _; exfalso; omega) | intro _)
        | (apply WO.pkT; exact rfl; exact rfl)
        | (apply WO.pkF; exact rfl; exact rfl)
        | (apply WO.sub; exact rfl; exact rfl; omega)
        | (apply WO.ct; exact rfl; exact rfl; first | exact hcc)
        | (apply WO.ctn; exact rfl; exact rfl; first | exact hcc)
        | (apply WD.ct; exact rfl; exact rfl; exact rfl; first | exact hcc)
        | (apply WO.iav; exact rfl; exact rfl; omega)
        | (apply WO.ias; exact rfl; exact rfl; omega)
        | (apply WO.lda; exact rfl; exact fun _ => rfl; (first | omega | (simp only [List.length_set]; omega) | (simp; omega)); decide; exact rfl; case ia => infer_instance)
        | (apply WO.lsa; exact rfl; (first | exact rfl | assumption | exact at_new | (apply at_old; assumption) | (apply at_put; first | assumption | (simp only [put_length]; assumption))); exact fun _ => rfl; (first | omega | (simp only [List.length_set]; omega) | (simp; omega)); decide; exact rfl; case ia => infer_instance)
        | (apply WO.sta; exact rfl; exact rfl; (first | exact rfl | assumption | exact at_new | (apply at_old; assumption) | (apply at_put; first | assumption | (simp only [put_length]; assumption))); exact fun _ => rfl; (first | omega | (simp only [List.length_set]; omega) | (simp; omega)); exact ⟨rfl, by decide, rfl⟩; exact rfl; case ia => infer_instance)
        | (apply WO.clb; exact rfl; exact rfl; exact rfl; all_goals first | (intro h; exact absurd h (by decide)) | intro _)
        | (apply WO.cll; exact rfl; exact rfl; exact rfl)
        | (apply WO.hlv; exact rfl; exact rfl; exact rfl)
        | (apply WO.hpv; exact rfl; exact rfl; exact rfl)
        | (apply WO.hnv; exact rfl; exact rfl; exact rfl)
        | (apply WO.pl; exact rfl; exact rfl)
        | (apply WO.pp; exact rfl; exact rfl)
      exact hQ ((R ++ [y]) ++ x :: S2) _ _ _ _ hw (ins_stop hs h2 (fun z hz => by simp at hz; subst hz; exact hyx)) List.perm_middle (by simp)

theorem loop221_1 (hb : b < h.length) (hn : n < 2305843009213693952) (hc : Cmp M h b g ok cf) (hcf : ∀ x y, ok x → ok y → (cf x y < 0 ↔ key y < key x)) (A B : List Int) (e : Nat) {Q : Ex → StW → Prop} : ∀ (X S0 S : List Int) (a5 : AV) (lo : List (Nat × AV)) (wr : List Nat), (A ++ S ++ X ++ B).length = n → A.length + S.length + X.length = e → Only b wr → (S0 ++ X).Pairwise (· < ·) → (∀ y ∈ S0 ++ X, ok y) → Sd key S → S.Perm S0 →
    (∀ S a4 a5 lo wr L, Only b wr → Sd key S → S.Perm (S0 ++ X) → L = A ++ S ++ B → Q (.exit 0) ⟨⟨[.sl b 0 n 1 cap, .int .i64 A.length, .int .i64 e, g, a4, a5], lo, h.put b (some (.cells (ints L) 3)), []⟩, wr⟩) →
    W M (.loop b221_1) ⟨⟨[.sl b 0 n 1 cap, .int .i64 A.length, .int .i64 e, g, .int .i64 (A.length + S.length : Nat), a5], lo, h.put b (some (.cells (ints (A ++ S ++ X ++ B)) 3)), []⟩, wr⟩ Q
  | [], S0, S, a5, lo, wr, hl, he, hw, hlt, ho, hs, hp, hQ => by
    have he' : A.length + S.length = e := by simpa using he
    refine W.loop ?_
    unfold b221_1
    repeat' first
      | apply W.seq
      | apply SQn
      | apply W.region
      | apply WO.nil
      | apply W.block
      | apply W.ret
      | apply W.exit
      | apply W.skip
      | apply SQr
      | apply SQe
      | apply BQn
      | apply BQr
      | apply BQe
      | (apply BQo; exact rfl)
      | apply LQe
      | apply LQr
      | (apply W.condT; exact rfl)
      | (apply W.condF; exact rfl)
      | (apply W.cond; exact rfl; all_goals intro _)
      | (apply WO.lss; exact rfl; exact rfl; all_goals first | (intro _; exfalso; omega) | intro _)
      | (apply WO.add; exact rfl; exact rfl; omega)
      | (apply WO.pl; exact rfl; exact rfl)
      | (apply WO.pp; exact rfl; exact rfl)
    · exact hQ S _ _ _ _ _ hw hs (by simpa using hp) (by simp)
  | x :: X, S0, S, a5, lo, wr, hl, he, hw, hlt, ho, hs, hp, hQ => by
    have he' : A.length + S.length < e := by simp at he; omega
    have hen : e ≤ n := by simp at hl he; omega
    have hpw := List.pairwise_append.1 hlt
    refine W.loop ?_
    unfold b221_1
    repeat' first
      | apply W.seq
      | apply SQn
      | apply W.region
      | apply WO.nil
      | apply W.block
      | apply W.ret
      | apply W.exit
      | apply W.skip
      | apply SQr
      | apply SQe
      | apply BQn
      | apply BQr
      | apply BQe
      | (apply BQo; exact rfl)
      | apply LQe
      | apply LQr
      | (apply W.condT; exact rfl)
      | (apply W.condF; exact rfl)
      | (apply W.cond; exact rfl; all_goals intro _)
      | (apply WO.lss; exact rfl; exact rfl; all_goals first | (intro _; exfalso; omega) | intro _)
      | (apply WO.add; exact rfl; exact rfl; omega)
      | (apply WO.pl; exact rfl; exact rfl)
      | (apply WO.pp; exact rfl; exact rfl)
    rw [show A ++ S ++ x :: X ++ B = A ++ S ++ x :: [] ++ (X ++ B) by simp]
    refine loop221_0 hb hn hc hcf _ _ A (X ++ B) x (ho x (by simp)) S.length S [] _ _ rfl (by simp at hl ⊢; omega) hw (fun y hy => ?_) (by simpa using hs) (by simp) (fun S' a5 lo wr L g1 g2 g3 g4 => ?_)
    · have hy0 : y ∈ S0 := hp.mem_iff.1 (by simpa using hy)
      exact ⟨hpw.2.2 y hy0 x (by simp), ho y (by simp [hy0])⟩
    · subst g4
      have hS' : S'.length = S.length + 1 := by rw [g3.length_eq]; simp
      repeat' first
        | apply W.seq
        | apply SQn
        | apply W.region
        | apply WO.nil
        | apply W.block
        | apply W.ret
        | apply W.exit
        | apply W.skip
        | apply SQr
        | apply SQe
        | apply BQn
        | apply BQr
        | apply BQe
        | (apply BQo; exact rfl)
        | apply LQe
        | apply LQr
        | (apply W.condT; exact rfl)
        | (apply W.condF; exact rfl)
        | (apply W.cond; exact rfl; all_goals intro _)
        | (apply WO.lss; exact rfl; exact rfl; all_goals first | (intro _; exfalso; omega) | intro _)
        | (apply WO.add; exact rfl; exact rfl; omega)
        | (apply WO.pl; exact rfl; exact rfl)
        | (apply WO.pp; exact rfl; exact rfl)
      refine LQn ?_
      rw [show ((A.length + S.length : Nat) : Int) + 1 = ((A.length + S'.length : Nat) : Int) by omega]
      rw [show A ++ S' ++ (X ++ B) = A ++ S' ++ X ++ B by simp]
      refine loop221_1 hb hn hc hcf A B e X (S0 ++ [x]) S' _ _ _ (by simp at hl ⊢; omega) (by simp at he; omega) g1 (by simpa using hlt) (by simpa using ho) g2 ?_ (fun S a4 a5 lo wr L k1 k2 k3 k4 => ?_)
      · rw [List.append_nil] at g3
        exact (g3.trans (hp.cons x)).trans (List.perm_append_comm (l₁ := [x]) (l₂ := S0))
      · exact hQ S a4 a5 lo wr L k1 k2 (by simpa using k3) k4

theorem r221 (C : CS M) (hb : b < h.length) (hn : n < 2305843009213693952) (hc : Cmp M h b g ok cf) (hcf : ∀ x y, ok x → ok y → (cf x y < 0 ↔ key y < key x)) {A X B : List Int} (hl : (A ++ X ++ B).length = n) (hlt : X.Pairwise (· < ·)) (ho : ∀ y ∈ X, ok y) :
    ∃ S wr, Only b wr ∧ (Sd key S ∧ S.Perm X) ∧ CT M (fn 221) [.sl b 0 n 1 cap, .int .i64 A.length, .int .i64 (A.length + X.length : Nat), g] (h.put b (some (.cells (ints (A ++ X ++ B)) 3))) ⟨.tup [], h.put b (some (.cells (ints (A ++ S ++ B)) 3)), wr⟩ := by
  have hl' : A.length + X.length + B.length = n := by simp at hl; omega
  obtain ⟨l', wr, hw, ⟨S, rfl, g2, g3⟩, hr⟩ := run_put (M := M) (l := A ++ X ++ B) (e := 3) (f := fun x => [.int .i64 x]) (P := fun l' => ∃ S, l' = A ++ S ++ B ∧ Sd key S ∧ S.Perm X)
    (ars := [.sl b 0 n 1 cap, .int .i64 A.length, .int .i64 (A.length + X.length : Nat), g]) (by rw [C.ft]; exact ft221) (by simp) hb (fun _ => rfl) (by
      unfold b221
      simp only [List.map_cons, List.map_nil, List.getElem?_cons_zero, List.getElem?_cons_succ, List.getElem?_nil, Option.getD_some, Option.getD_none]
      repeat' first
        | apply W.seq
        | apply SQn
        | apply W.region
        | apply WO.nil
        | apply W.block
        | apply W.ret
        | apply W.exit
        | apply W.skip
        | apply SQr
        | apply SQe
        | apply BQn
        | apply BQr
        | apply BQe
        | (apply BQo; exact rfl)
        | apply LQe
        | apply LQr
        | (apply W.condT; exact rfl)
        | (apply W.condF; exact rfl)
        | (apply W.cond; exact rfl; all_goals intro _)
        | (apply WO.lss; exact rfl; exact rfl; all_goals first | (intro _; exfalso; omega) | intro _)
        | (apply WO.add; exact rfl; exact rfl; omega)
        | (apply WO.pl; exact rfl; exact rfl)
        | (apply WO.pp; exact rfl; exact rfl)
      cases X with
      | nil =>
        have h0 : ([] : List Int).length = 0 := rfl
        refine W.loop ?_
        unfold b221_1
        repeat' first
          | apply W.seq
          | apply SQn
          | apply W.region
          | apply WO.nil
          | apply W.block
          | apply W.ret
          | apply W.exit
          | apply W.skip
          | apply SQr
          | apply SQe
          | apply BQn
          | apply BQr
          | apply BQe
          | (apply BQo; exact rfl)
          | apply LQe
          | apply LQr
          | (apply W.condT; exact rfl)
          | (apply W.condF; exact rfl)
          | (apply W.cond; exact rfl; all_goals intro _)
          | (apply WO.lss; exact rfl; exact rfl; all_goals first | (intro _; exfalso; omega) | intro _)
          | (apply WO.add; exact rfl; exact rfl; omega)
          | (apply WO.pl; exact rfl; exact rfl)
          | (apply WO.pp; exact rfl; exact rfl)
        · exact ⟨.inl rfl, rfl, _, rfl, Only.nil, [], by simp, Sd.nil, .refl _⟩
      | cons x X =>
        rw [show ((A.length : Nat) : Int) + 1 = ((A.length + [x].length : Nat) : Int) by simp, show A ++ x :: X ++ B = A ++ [x] ++ X ++ B by simp]
        refine loop221_1 hb hn hc hcf A B (A.length + (x :: X).length) X [x] [x] _ _ _ (by simp; simp at hl'; omega) (by simp; omega) Only.nil (by simpa using hlt) (by simpa using ho) (Sd.one x) (.refl _) (fun S a4 a5 lo wr L k1 k2 k3 k4 => ?_)
        repeat' first
          | apply W.seq
          | apply SQn
          | apply W.region
          | apply WO.nil
          | apply W.block
          | apply W.ret
          | apply W.exit
          | apply W.skip
          | apply SQr
          | apply SQe
          | apply BQn
          | apply BQr
          | apply BQe
          | (apply BQo; exact rfl)
          | apply LQe
          | apply LQr
          | (apply W.condT; exact rfl)
          | (apply W.condF; exact rfl)
          | (apply W.cond; exact rfl; all_goals intro _)
          | (apply WO.lss; exact rfl; exact rfl; all_goals first | (intro _; exfalso; omega) | intro _)
          | (apply WO.add; exact rfl; exact rfl; omega)
          | (apply WO.pl; exact rfl; exact rfl)
          | (apply WO.pp; exact rfl; exact rfl)
        exact ⟨.inl rfl, rfl, L, rfl, k1, S, k4, k2, by simpa using k3⟩)
  exact ⟨S, wr, hw, ⟨g2, g3⟩, ct_of_run C.n221 hr⟩
end Go.Ab.Ch1
