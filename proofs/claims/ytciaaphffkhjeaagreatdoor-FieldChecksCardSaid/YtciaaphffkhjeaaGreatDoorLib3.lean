/-
  Own work: the resolved code of some functions of chapter 6.
-/
import Derived.Test.YtciaaphffkhjeaaGreatDoorCh6Base
import Derived.Test.YtciaaphffkhjeaaGreatDoorLib2
import Derived.Test.YtciaaphffkhjeaaGreatDoorCh6Row
namespace Go.Ab.Ch6
set_option maxRecDepth 1000000
/-- stadion/stadionlaw06.FieldChecks -/
def b3 : ICode :=
 .seq (.region [⟨(.p 2), .box 24 4 (.p 0), none⟩,
    ⟨(.p 3), .box 27 3 (.p 1), none⟩,
    ⟨(.p 4), .mv (.c (.bool false)), none⟩])
  (.seq (.seq (.region [⟨(.l 5), .faddr 0 (.p 2), none⟩,
      ⟨(.l 6), .load 1 false (.l 5), none⟩,
      ⟨(.l 7), .call (.c (.fn (.func 9) [] [])) [(.l 6)], none⟩,
      ⟨(.l 8), .un .not (.l 7), none⟩,
      ⟨(.l 9), .mv (.l 8), none⟩,
      ⟨(.l 10), .faddr 0 (.p 3), some ((.l 9), false)⟩,
      ⟨(.l 11), .load 1 false (.l 10), some ((.l 9), false)⟩,
      ⟨(.l 12), .call (.c (.fn (.func 9) [] [])) [(.l 11)], some ((.l 9), false)⟩,
      ⟨(.l 13), .un .not (.l 12), some ((.l 9), false)⟩,
      ⟨(.l 14), .pick (.l 9) (.c (.bool true)) (.l 13), none⟩,
      ⟨(.l 15), .mv (.l 14), none⟩,
      ⟨(.l 16), .faddr 1 (.p 3), some ((.l 15), false)⟩,
      ⟨(.l 17), .load 1 false (.l 16), some ((.l 15), false)⟩,
      ⟨(.l 18), .len .sl (.l 17), some ((.l 15), false)⟩,
      ⟨(.l 19), .bin .gtr (.l 18) (.c (.int .i64 (27))), some ((.l 15), false)⟩,
      ⟨(.l 20), .pick (.l 15) (.c (.bool true)) (.l 19), none⟩])
    (.cond (.l 20)
     (.seq (.region [⟨(.l 21), .call (.c (.fn (.func 10) [] [])) [], none⟩,
        ⟨(.p 4), .mv (.l 21), none⟩])
      (.ret))
     (.skip)))
   (.seq (.draw [(⟨(.l 22), .load 4 true (.p 2), none⟩, []),
      (⟨(.l 23), .call (.c (.fn (.func 11) [] [])) [(.l 22)], none⟩, []),
      (⟨(.l 24), .load 4 true (.p 2), none⟩, [0, 1]),
      (⟨(.l 25), .call (.c (.fn (.func 12) [] [])) [(.l 24)], none⟩, []),
      (⟨(.l 26), .bin .eql (.l 23) (.l 25), none⟩, []),
      (⟨(.l 27), .mv (.l 26), none⟩, []),
      (⟨(.l 28), .load 3 true (.p 3), some ((.l 27), true)⟩, []),
      (⟨(.l 29), .call (.c (.fn (.func 13) [] [])) [(.l 28)], some ((.l 27), true)⟩, []),
      (⟨(.l 30), .load 3 true (.p 3), some ((.l 27), true)⟩, [6, 7]),
      (⟨(.l 31), .call (.c (.fn (.func 14) [] [])) [(.l 30)], some ((.l 27), true)⟩, []),
      (⟨(.l 32), .bin .eql (.l 29) (.l 31), some ((.l 27), true)⟩, []),
      (⟨(.l 33), .pick (.l 27) (.l 32) (.c (.bool false)), none⟩, []),
      (⟨(.l 34), .mv (.l 33), none⟩, []),
      (⟨(.l 35), .call (.c (.fn (.func 10) [] [])) [], some ((.l 34), true)⟩, []),
      (⟨(.l 36), .pick (.l 34) (.l 35) (.c (.bool false)), none⟩, []),
      (⟨(.p 4), .mv (.l 36), none⟩, [])])
    (.ret)))
theorem ft3 : FT 3 = some ⟨37, [0, 1, 2, 3, 4], [.var (.p 4)], b3⟩ := by kernel_rfl

def b9_0 : ICode :=
 .seq (.seq (.region [⟨(.l 7), .mv (.p 2), none⟩,
     ⟨(.l 8), .mv (.p 0), none⟩,
     ⟨(.l 9), .len .sl (.l 8), none⟩,
     ⟨(.l 10), .bin .lss (.l 7) (.l 9), none⟩])
   (.cond (.l 10)
    (.skip)
    (.exit 0)))
  (.seq (.block 1
    (.seq (.region [⟨(.l 13), .mv (.p 0), none⟩,
       ⟨(.l 14), .mv (.p 2), none⟩,
       ⟨(.l 15), .iaddr none 1 (.l 13) (.l 14), none⟩,
       ⟨(.l 16), .load 1 false (.l 15), none⟩,
       ⟨(.l 17), .len .str (.l 16), none⟩,
       ⟨(.l 18), .bin .gtr (.l 17) (.c (.int .i64 (40))), none⟩])
     (.cond (.l 18)
      (.seq (.region [⟨(.p 1), .mv (.c (.bool false)), none⟩])
       (.ret))
      (.skip))))
   (.region [⟨(.l 11), .mv (.p 2), none⟩,
     ⟨(.l 12), .bin .add (.l 11) (.c (.int .i64 (1))), none⟩,
     ⟨(.p 2), .mv (.l 12), none⟩]))
/-- stadion/stadionref06.ShortNames -/
def b9 : ICode :=
 .seq (.region [⟨(.p 1), .mv (.c (.bool false)), none⟩])
  (.seq (.seq (.region [⟨(.l 4), .mv (.p 0), none⟩,
      ⟨(.l 5), .len .sl (.l 4), none⟩,
      ⟨(.l 6), .bin .gtr (.l 5) (.c (.int .i64 (35))), none⟩])
    (.cond (.l 6)
     (.seq (.region [⟨(.p 1), .mv (.c (.bool false)), none⟩])
      (.ret))
     (.skip)))
   (.seq (.seq (.region [⟨(.p 2), .mv (.c (.int .i64 (0))), none⟩])
     (.block 0
      (.loop b9_0)))
    (.seq (.region [⟨(.p 1), .mv (.c (.bool true)), none⟩])
     (.ret))))
theorem ft9 : FT 9 = some ⟨19, [0, 2, 3], [.var (.p 1)], b9⟩ := by kernel_rfl

/-- stadion/field.CheckContest -/
def b11 : ICode :=
 .seq (.region [⟨(.p 1), .box 32 4 (.p 0), none⟩,
    ⟨(.p 2), .mv (.c (.int .i64 (0))), none⟩])
  (.seq (.seq (.draw [(⟨(.l 4), .faddr 0 (.p 1), none⟩, []),
      (⟨(.l 5), .load 1 false (.l 4), none⟩, []),
      (⟨(.l 6), .call (.c (.fn (.func 62) [] [])) [(.l 5)], none⟩, []),
      (⟨(.l 7), .faddr 1 (.p 1), none⟩, [0, 1, 2]),
      (⟨(.l 8), .load 1 false (.l 7), none⟩, [0, 1, 2]),
      (⟨(.l 9), .call (.c (.fn (.func 63) [] [])) [(.l 8), (.c (.int .i64 (1))), (.c (.int .i64 (6)))], none⟩, []),
      (⟨(.l 10), .faddr 3 (.p 1), none⟩, [0, 1, 2, 3, 4, 5]),
      (⟨(.l 11), .load 1 false (.l 10), none⟩, [0, 1, 2, 3, 4, 5]),
      (⟨(.l 12), .faddr 1 (.p 1), none⟩, [0, 1, 2, 3, 4, 5, 6, 7]),
      (⟨(.l 13), .load 1 false (.l 12), none⟩, [0, 1, 2, 3, 4, 5, 6, 7]),
      (⟨(.l 14), .bin .sub (.c (.int .i64 (6))) (.l 13), none⟩, [0, 1, 2, 3, 4, 5, 6, 7]),
      (⟨(.l 15), .call (.c (.fn (.func 63) [] [])) [(.l 11), (.c (.int .i64 (0))), (.l 14)], none⟩, []),
      (⟨(.l 16), .bslice 30 3 1 [.int .i64 (0)] [(0, 1, (.l 6)), (1, 1, (.l 9)), (2, 1, (.l 15))], none⟩, []),
      (⟨(.l 17), .call (.c (.fn (.func 61) [] [])) [(.l 16)], none⟩, []),
      (⟨(.p 3), .mv (.l 17), none⟩, [])])
    (.seq (.region [⟨(.l 18), .mv (.p 3), none⟩,
       ⟨(.l 19), .bin .neq (.l 18) (.c (.int .i64 (0))), none⟩])
     (.cond (.l 19)
      (.seq (.region [⟨(.l 20), .mv (.p 3), none⟩,
         ⟨(.p 2), .mv (.l 20), none⟩])
       (.ret))
      (.skip))))
   (.seq (.seq (.region [⟨(.l 21), .faddr 3 (.p 1), none⟩,
       ⟨(.l 22), .load 1 false (.l 21), none⟩,
       ⟨(.l 23), .bin .eql (.l 22) (.c (.int .i64 (0))), none⟩])
     (.cond (.l 23)
      (.seq (.region [⟨(.l 24), .faddr 2 (.p 1), none⟩,
         ⟨(.l 25), .load 1 false (.l 24), none⟩,
         ⟨(.l 26), .bin .neq (.l 25) (.c (.int .i64 (0))), none⟩,
         ⟨(.l 27), .call (.c (.fn (.func 64) [] [])) [(.l 26), (.c (.int .i64 (3)))], none⟩,
         ⟨(.p 2), .mv (.l 27), none⟩])
       (.ret))
      (.skip)))
    (.seq (.region [⟨(.l 28), .faddr 2 (.p 1), none⟩,
       ⟨(.l 29), .load 1 false (.l 28), none⟩,
       ⟨(.l 30), .call (.c (.fn (.func 63) [] [])) [(.l 29), (.c (.int .i64 (1))), (.c (.int .i64 (32)))], none⟩,
       ⟨(.p 2), .mv (.l 30), none⟩])
     (.ret))))
theorem ft11 : FT 11 = some ⟨31, [0, 1, 2, 3], [.var (.p 2)], b11⟩ := by kernel_rfl

/-- stadion/stadionref06.CheckContest -/
def b12 : ICode :=
 .seq (.region [⟨(.p 1), .box 24 4 (.p 0), none⟩,
    ⟨(.p 2), .mv (.c (.int .i64 (0))), none⟩])
  (.seq (.region [⟨(.l 4), .faddr 0 (.p 1), none⟩,
     ⟨(.l 5), .load 1 false (.l 4), none⟩,
     ⟨(.l 6), .call (.c (.fn (.func 65) [] [])) [(.l 5)], none⟩,
     ⟨(.p 3), .mv (.l 6), none⟩])
   (.seq (.seq (.region [⟨(.l 7), .mv (.p 3), none⟩,
       ⟨(.l 8), .bin .neq (.l 7) (.c (.int .i64 (0))), none⟩])
     (.cond (.l 8)
      (.seq (.region [⟨(.l 9), .mv (.p 3), none⟩,
         ⟨(.p 2), .mv (.l 9), none⟩])
       (.ret))
      (.skip)))
    (.seq (.seq (.region [⟨(.l 10), .faddr 1 (.p 1), none⟩,
        ⟨(.l 11), .load 1 false (.l 10), none⟩,
        ⟨(.l 12), .bin .lss (.l 11) (.c (.int .i64 (1))), none⟩,
        ⟨(.l 13), .mv (.l 12), none⟩,
        ⟨(.l 14), .faddr 1 (.p 1), some ((.l 13), false)⟩,
        ⟨(.l 15), .load 1 false (.l 14), some ((.l 13), false)⟩,
        ⟨(.l 16), .bin .gtr (.l 15) (.c (.int .i64 (6))), some ((.l 13), false)⟩,
        ⟨(.l 17), .pick (.l 13) (.c (.bool true)) (.l 16), none⟩,
        ⟨(.l 18), .mv (.l 17), none⟩,
        ⟨(.l 19), .faddr 3 (.p 1), some ((.l 18), false)⟩,
        ⟨(.l 20), .load 1 false (.l 19), some ((.l 18), false)⟩,
        ⟨(.l 21), .bin .lss (.l 20) (.c (.int .i64 (0))), some ((.l 18), false)⟩,
        ⟨(.l 22), .pick (.l 18) (.c (.bool true)) (.l 21), none⟩,
        ⟨(.l 23), .mv (.l 22), none⟩,
        ⟨(.l 24), .faddr 3 (.p 1), some ((.l 23), false)⟩,
        ⟨(.l 25), .load 1 false (.l 24), some ((.l 23), false)⟩,
        ⟨(.l 26), .faddr 1 (.p 1), some ((.l 23), false)⟩,
        ⟨(.l 27), .load 1 false (.l 26), some ((.l 23), false)⟩,
        ⟨(.l 28), .bin .sub (.c (.int .i64 (6))) (.l 27), some ((.l 23), false)⟩,
        ⟨(.l 29), .bin .gtr (.l 25) (.l 28), some ((.l 23), false)⟩,
        ⟨(.l 30), .pick (.l 23) (.c (.bool true)) (.l 29), none⟩])
      (.cond (.l 30)
       (.seq (.region [⟨(.p 2), .mv (.c (.int .i64 (3))), none⟩])
        (.ret))
       (.skip)))
     (.seq (.seq (.region [⟨(.l 31), .faddr 3 (.p 1), none⟩,
         ⟨(.l 32), .load 1 false (.l 31), none⟩,
         ⟨(.l 33), .bin .gtr (.l 32) (.c (.int .i64 (0))), none⟩,
         ⟨(.l 34), .mv (.l 33), none⟩,
         ⟨(.l 35), .faddr 2 (.p 1), some ((.l 34), true)⟩,
         ⟨(.l 36), .load 1 false (.l 35), some ((.l 34), true)⟩,
         ⟨(.l 37), .bin .lss (.l 36) (.c (.int .i64 (1))), some ((.l 34), true)⟩,
         ⟨(.l 38), .mv (.l 37), some ((.l 34), true)⟩,
         ⟨(.l 39), .faddr 2 (.p 1), some ((.l 38), false)⟩,
         ⟨(.l 40), .load 1 false (.l 39), some ((.l 38), false)⟩,
         ⟨(.l 41), .bin .gtr (.l 40) (.c (.int .i64 (32))), some ((.l 38), false)⟩,
         ⟨(.l 42), .pick (.l 38) (.c (.bool true)) (.l 41), some ((.l 34), true)⟩,
         ⟨(.l 43), .pick (.l 34) (.l 42) (.c (.bool false)), none⟩,
         ⟨(.l 44), .mv (.l 43), none⟩,
         ⟨(.l 45), .faddr 3 (.p 1), some ((.l 44), false)⟩,
         ⟨(.l 46), .load 1 false (.l 45), some ((.l 44), false)⟩,
         ⟨(.l 47), .bin .eql (.l 46) (.c (.int .i64 (0))), some ((.l 44), false)⟩,
         ⟨(.l 48), .mv (.l 47), some ((.l 44), false)⟩,
         ⟨(.l 49), .faddr 2 (.p 1), some ((.l 48), true)⟩,
         ⟨(.l 50), .load 1 false (.l 49), some ((.l 48), true)⟩,
         ⟨(.l 51), .bin .neq (.l 50) (.c (.int .i64 (0))), some ((.l 48), true)⟩,
         ⟨(.l 52), .pick (.l 48) (.l 51) (.c (.bool false)), some ((.l 44), false)⟩,
         ⟨(.l 53), .pick (.l 44) (.c (.bool true)) (.l 52), none⟩])
       (.cond (.l 53)
        (.seq (.region [⟨(.p 2), .mv (.c (.int .i64 (3))), none⟩])
         (.ret))
        (.skip)))
      (.seq (.region [⟨(.p 2), .mv (.c (.int .i64 (0))), none⟩])
       (.ret))))))
theorem ft12 : FT 12 = some ⟨54, [0, 1, 2, 3], [.var (.p 2)], b12⟩ := by kernel_rfl

def b13_0 : ICode :=
 .seq (.region [⟨(.l 30), .bin .lss (.p 9) (.p 8), none⟩])
  (.seq (.cond (.l 30)
    (.skip)
    (.exit 0))
   (.seq (.block 1
     (.seq (.region [⟨(.l 31), .iaddr none 1 (.p 7) (.p 9), none⟩,
        ⟨(.l 32), .load 1 false (.l 31), none⟩,
        ⟨(.p 5), .mv (.l 32), none⟩])
      (.seq (.seq (.region [⟨(.l 33), .mv (.p 5), none⟩,
          ⟨(.l 34), .call (.c (.fn (.func 63) [] [])) [(.l 33), (.c (.int .i64 (10))), (.c (.int .i64 (999999)))], none⟩,
          ⟨(.l 35), .mv (.p 5), none⟩,
          ⟨(.l 36), .bin .rem (.l 35) (.c (.int .i64 (10))), none⟩,
          ⟨(.l 37), .bin .neq (.l 36) (.c (.int .i64 (0))), none⟩,
          ⟨(.l 38), .call (.c (.fn (.func 64) [] [])) [(.l 37), (.c (.int .i64 (3)))], none⟩,
          ⟨(.l 39), .mv (.p 5), none⟩,
          ⟨(.l 40), .mv (.p 4), none⟩,
          ⟨(.l 41), .bin .leq (.l 39) (.l 40), none⟩,
          ⟨(.l 42), .call (.c (.fn (.func 64) [] [])) [(.l 41), (.c (.int .i64 (11)))], none⟩,
          ⟨(.l 43), .bslice 30 3 1 [.int .i64 (0)] [(0, 1, (.l 34)), (1, 1, (.l 38)), (2, 1, (.l 42))], none⟩,
          ⟨(.l 44), .call (.c (.fn (.func 61) [] [])) [(.l 43)], none⟩,
          ⟨(.p 6), .mv (.l 44), none⟩])
        (.seq (.region [⟨(.l 45), .mv (.p 6), none⟩,
           ⟨(.l 46), .bin .neq (.l 45) (.c (.int .i64 (0))), none⟩])
         (.cond (.l 46)
          (.seq (.region [⟨(.l 47), .mv (.p 6), none⟩,
             ⟨(.p 2), .mv (.l 47), none⟩])
           (.ret))
          (.skip))))
       (.region [⟨(.l 48), .mv (.p 5), none⟩,
         ⟨(.p 4), .mv (.l 48), none⟩]))))
    (.region [⟨(.l 49), .bin .add (.p 9) (.c (.int .i64 (1))), none⟩,
      ⟨(.p 9), .mv (.l 49), none⟩])))
/-- stadion/field.CheckVertical -/
def b13 : ICode :=
 .seq (.region [⟨(.p 1), .box 35 3 (.p 0), none⟩,
    ⟨(.p 2), .mv (.c (.int .i64 (0))), none⟩])
  (.seq (.seq (.draw [(⟨(.l 8), .faddr 0 (.p 1), none⟩, []),
      (⟨(.l 9), .load 1 false (.l 8), none⟩, []),
      (⟨(.l 10), .call (.c (.fn (.func 62) [] [])) [(.l 9)], none⟩, []),
      (⟨(.l 11), .faddr 1 (.p 1), none⟩, [0, 1, 2]),
      (⟨(.l 12), .load 1 false (.l 11), none⟩, [0, 1, 2]),
      (⟨(.l 13), .len .sl (.l 12), none⟩, [0, 1, 2]),
      (⟨(.l 14), .bin .eql (.l 13) (.c (.int .i64 (0))), none⟩, [0, 1, 2]),
      (⟨(.l 15), .call (.c (.fn (.func 64) [] [])) [(.l 14), (.c (.int .i64 (12)))], none⟩, []),
      (⟨(.l 16), .faddr 1 (.p 1), none⟩, [0, 1, 2, 3, 4, 5, 6, 7]),
      (⟨(.l 17), .load 1 false (.l 16), none⟩, [0, 1, 2, 3, 4, 5, 6, 7]),
      (⟨(.l 18), .len .sl (.l 17), none⟩, [0, 1, 2, 3, 4, 5, 6, 7]),
      (⟨(.l 19), .bin .gtr (.l 18) (.c (.int .i64 (24))), none⟩, [0, 1, 2, 3, 4, 5, 6, 7]),
      (⟨(.l 20), .call (.c (.fn (.func 64) [] [])) [(.l 19), (.c (.int .i64 (5)))], none⟩, []),
      (⟨(.l 21), .bslice 30 3 1 [.int .i64 (0)] [(0, 1, (.l 10)), (1, 1, (.l 15)), (2, 1, (.l 20))], none⟩, []),
      (⟨(.l 22), .call (.c (.fn (.func 61) [] [])) [(.l 21)], none⟩, []),
      (⟨(.p 3), .mv (.l 22), none⟩, [])])
    (.seq (.region [⟨(.l 23), .mv (.p 3), none⟩,
       ⟨(.l 24), .bin .neq (.l 23) (.c (.int .i64 (0))), none⟩])
     (.cond (.l 24)
      (.seq (.region [⟨(.l 25), .mv (.p 3), none⟩,
         ⟨(.p 2), .mv (.l 25), none⟩])
       (.ret))
      (.skip))))
   (.seq (.region [⟨(.p 4), .mv (.c (.int .i64 (0))), none⟩])
    (.seq (.seq (.region [⟨(.l 26), .faddr 1 (.p 1), none⟩,
        ⟨(.p 7), .load 1 false (.l 26), none⟩,
        ⟨(.p 8), .len .sl (.p 7), none⟩,
        ⟨(.p 9), .mv (.c (.int .i64 (0))), none⟩])
      (.block 0
       (.loop b13_0)))
     (.seq (.draw [(⟨(.l 50), .faddr 2 (.p 1), none⟩, []),
        (⟨(.l 51), .load 1 false (.l 50), none⟩, []),
        (⟨(.l 52), .call (.c (.fn (.func 63) [] [])) [(.l 51), (.c (.int .i64 (10))), (.c (.int .i64 (1000)))], none⟩, []),
        (⟨(.l 53), .faddr 2 (.p 1), none⟩, [0, 1, 2]),
        (⟨(.l 54), .load 1 false (.l 53), none⟩, [0, 1, 2]),
        (⟨(.l 55), .bin .rem (.l 54) (.c (.int .i64 (10))), none⟩, [0, 1, 2]),
        (⟨(.l 56), .bin .neq (.l 55) (.c (.int .i64 (0))), none⟩, [0, 1, 2]),
        (⟨(.l 57), .call (.c (.fn (.func 64) [] [])) [(.l 56), (.c (.int .i64 (3)))], none⟩, []),
        (⟨(.l 58), .bslice 30 2 1 [.int .i64 (0)] [(0, 1, (.l 52)), (1, 1, (.l 57))], none⟩, []),
        (⟨(.l 59), .call (.c (.fn (.func 61) [] [])) [(.l 58)], none⟩, []),
        (⟨(.p 2), .mv (.l 59), none⟩, [])])
      (.ret)))))
theorem ft13 : FT 13 = some ⟨60, [0, 1, 2, 3, 4, 6, 7, 27, 28, 29], [.var (.p 2)], b13⟩ := by kernel_rfl

def b14_0 : ICode :=
 .seq (.seq (.region [⟨(.l 20), .mv (.p 4), none⟩,
     ⟨(.l 21), .faddr 1 (.p 1), none⟩,
     ⟨(.l 22), .load 1 false (.l 21), none⟩,
     ⟨(.l 23), .len .sl (.l 22), none⟩,
     ⟨(.l 24), .bin .lss (.l 20) (.l 23), none⟩])
   (.cond (.l 24)
    (.skip)
    (.exit 0)))
  (.seq (.block 1
    (.seq (.region [⟨(.l 27), .faddr 1 (.p 1), none⟩,
       ⟨(.l 28), .load 1 false (.l 27), none⟩,
       ⟨(.l 29), .mv (.p 4), none⟩,
       ⟨(.l 30), .iaddr none 1 (.l 28) (.l 29), none⟩,
       ⟨(.l 31), .load 1 false (.l 30), none⟩,
       ⟨(.p 5), .mv (.l 31), none⟩])
     (.seq (.seq (.region [⟨(.l 32), .mv (.p 5), none⟩,
         ⟨(.l 33), .bin .lss (.l 32) (.c (.int .i64 (10))), none⟩,
         ⟨(.l 34), .mv (.l 33), none⟩,
         ⟨(.l 35), .mv (.p 5), some ((.l 34), false)⟩,
         ⟨(.l 36), .bin .gtr (.l 35) (.c (.int .i64 (999999))), some ((.l 34), false)⟩,
         ⟨(.l 37), .pick (.l 34) (.c (.bool true)) (.l 36), none⟩,
         ⟨(.l 38), .mv (.l 37), none⟩,
         ⟨(.l 39), .mv (.p 5), some ((.l 38), false)⟩,
         ⟨(.l 40), .bin .rem (.l 39) (.c (.int .i64 (10))), some ((.l 38), false)⟩,
         ⟨(.l 41), .bin .neq (.l 40) (.c (.int .i64 (0))), some ((.l 38), false)⟩,
         ⟨(.l 42), .pick (.l 38) (.c (.bool true)) (.l 41), none⟩])
       (.cond (.l 42)
        (.seq (.region [⟨(.p 2), .mv (.c (.int .i64 (3))), none⟩])
         (.ret))
        (.skip)))
      (.seq (.region [⟨(.l 43), .mv (.p 4), none⟩,
         ⟨(.l 44), .bin .gtr (.l 43) (.c (.int .i64 (0))), none⟩,
         ⟨(.l 45), .mv (.l 44), none⟩,
         ⟨(.l 46), .mv (.p 5), some ((.l 45), true)⟩,
         ⟨(.l 47), .faddr 1 (.p 1), some ((.l 45), true)⟩,
         ⟨(.l 48), .load 1 false (.l 47), some ((.l 45), true)⟩,
         ⟨(.l 49), .mv (.p 4), some ((.l 45), true)⟩,
         ⟨(.l 50), .bin .sub (.l 49) (.c (.int .i64 (1))), some ((.l 45), true)⟩,
         ⟨(.l 51), .iaddr none 1 (.l 48) (.l 50), some ((.l 45), true)⟩,
         ⟨(.l 52), .load 1 false (.l 51), some ((.l 45), true)⟩,
         ⟨(.l 53), .bin .leq (.l 46) (.l 52), some ((.l 45), true)⟩,
         ⟨(.l 54), .pick (.l 45) (.l 53) (.c (.bool false)), none⟩])
       (.cond (.l 54)
        (.seq (.region [⟨(.p 2), .mv (.c (.int .i64 (11))), none⟩])
         (.ret))
        (.skip))))))
   (.region [⟨(.l 25), .mv (.p 4), none⟩,
     ⟨(.l 26), .bin .add (.l 25) (.c (.int .i64 (1))), none⟩,
     ⟨(.p 4), .mv (.l 26), none⟩]))
/-- stadion/stadionref06.CheckVertical -/
def b14 : ICode :=
 .seq (.region [⟨(.p 1), .box 27 3 (.p 0), none⟩,
    ⟨(.p 2), .mv (.c (.int .i64 (0))), none⟩])
  (.seq (.region [⟨(.l 6), .faddr 0 (.p 1), none⟩,
     ⟨(.l 7), .load 1 false (.l 6), none⟩,
     ⟨(.l 8), .call (.c (.fn (.func 65) [] [])) [(.l 7)], none⟩,
     ⟨(.p 3), .mv (.l 8), none⟩])
   (.seq (.seq (.region [⟨(.l 9), .mv (.p 3), none⟩,
       ⟨(.l 10), .bin .neq (.l 9) (.c (.int .i64 (0))), none⟩])
     (.cond (.l 10)
      (.seq (.region [⟨(.l 11), .mv (.p 3), none⟩,
         ⟨(.p 2), .mv (.l 11), none⟩])
       (.ret))
      (.skip)))
    (.seq (.seq (.region [⟨(.l 12), .faddr 1 (.p 1), none⟩,
        ⟨(.l 13), .load 1 false (.l 12), none⟩,
        ⟨(.l 14), .len .sl (.l 13), none⟩,
        ⟨(.l 15), .bin .eql (.l 14) (.c (.int .i64 (0))), none⟩])
      (.cond (.l 15)
       (.seq (.region [⟨(.p 2), .mv (.c (.int .i64 (12))), none⟩])
        (.ret))
       (.skip)))
     (.seq (.seq (.region [⟨(.l 16), .faddr 1 (.p 1), none⟩,
         ⟨(.l 17), .load 1 false (.l 16), none⟩,
         ⟨(.l 18), .len .sl (.l 17), none⟩,
         ⟨(.l 19), .bin .gtr (.l 18) (.c (.int .i64 (24))), none⟩])
       (.cond (.l 19)
        (.seq (.region [⟨(.p 2), .mv (.c (.int .i64 (5))), none⟩])
         (.ret))
        (.skip)))
      (.seq (.seq (.region [⟨(.p 4), .mv (.c (.int .i64 (0))), none⟩])
        (.block 0
         (.loop b14_0)))
       (.seq (.seq (.region [⟨(.l 55), .faddr 2 (.p 1), none⟩,
           ⟨(.l 56), .load 1 false (.l 55), none⟩,
           ⟨(.l 57), .bin .lss (.l 56) (.c (.int .i64 (10))), none⟩,
           ⟨(.l 58), .mv (.l 57), none⟩,
           ⟨(.l 59), .faddr 2 (.p 1), some ((.l 58), false)⟩,
           ⟨(.l 60), .load 1 false (.l 59), some ((.l 58), false)⟩,
           ⟨(.l 61), .bin .gtr (.l 60) (.c (.int .i64 (1000))), some ((.l 58), false)⟩,
           ⟨(.l 62), .pick (.l 58) (.c (.bool true)) (.l 61), none⟩,
           ⟨(.l 63), .mv (.l 62), none⟩,
           ⟨(.l 64), .faddr 2 (.p 1), some ((.l 63), false)⟩,
           ⟨(.l 65), .load 1 false (.l 64), some ((.l 63), false)⟩,
           ⟨(.l 66), .bin .rem (.l 65) (.c (.int .i64 (10))), some ((.l 63), false)⟩,
           ⟨(.l 67), .bin .neq (.l 66) (.c (.int .i64 (0))), some ((.l 63), false)⟩,
           ⟨(.l 68), .pick (.l 63) (.c (.bool true)) (.l 67), none⟩])
         (.cond (.l 68)
          (.seq (.region [⟨(.p 2), .mv (.c (.int .i64 (3))), none⟩])
           (.ret))
          (.skip)))
        (.seq (.region [⟨(.p 2), .mv (.c (.int .i64 (0))), none⟩])
         (.ret))))))))
theorem ft14 : FT 14 = some ⟨69, [0, 1, 2, 3, 4, 5], [.var (.p 2)], b14⟩ := by kernel_rfl

def b62_0 : ICode :=
 .seq (.region [⟨(.l 22), .bin .lss (.p 6) (.p 5), none⟩])
  (.seq (.cond (.l 22)
    (.skip)
    (.exit 0))
   (.seq (.block 1
     (.seq (.region [⟨(.l 23), .mv (.p 6), none⟩,
        ⟨(.p 3), .mv (.l 23), none⟩])
      (.seq (.region [⟨(.l 24), .mv (.p 0), none⟩,
         ⟨(.l 25), .mv (.p 3), none⟩,
         ⟨(.l 26), .call (.c (.fn (.func 76) [] [])) [(.l 24), (.l 25)], none⟩,
         ⟨(.p 4), .mv (.l 26), none⟩])
       (.seq (.region [⟨(.l 27), .mv (.p 4), none⟩,
          ⟨(.l 28), .bin .neq (.l 27) (.c (.int .i64 (0))), none⟩])
        (.cond (.l 28)
         (.seq (.region [⟨(.l 29), .mv (.p 4), none⟩,
            ⟨(.p 1), .mv (.l 29), none⟩])
          (.ret))
         (.skip))))))
    (.region [⟨(.l 30), .bin .add (.p 6) (.c (.int .i64 (1))), none⟩,
      ⟨(.p 6), .mv (.l 30), none⟩])))
/-- stadion/field.checkAthletes -/
def b62 : ICode :=
 .seq (.region [⟨(.p 1), .mv (.c (.int .i64 (0))), none⟩])
  (.seq (.seq (.region [⟨(.l 6), .mv (.p 0), none⟩,
      ⟨(.l 7), .len .sl (.l 6), none⟩,
      ⟨(.l 8), .bin .eql (.l 7) (.c (.int .i64 (0))), none⟩,
      ⟨(.l 9), .call (.c (.fn (.func 64) [] [])) [(.l 8), (.c (.int .i64 (12)))], none⟩,
      ⟨(.l 10), .mv (.p 0), none⟩,
      ⟨(.l 11), .len .sl (.l 10), none⟩,
      ⟨(.l 12), .bin .gtr (.l 11) (.c (.int .i64 (32))), none⟩,
      ⟨(.l 13), .call (.c (.fn (.func 64) [] [])) [(.l 12), (.c (.int .i64 (5)))], none⟩,
      ⟨(.l 14), .bslice 30 2 1 [.int .i64 (0)] [(0, 1, (.l 9)), (1, 1, (.l 13))], none⟩,
      ⟨(.l 15), .call (.c (.fn (.func 61) [] [])) [(.l 14)], none⟩,
      ⟨(.p 2), .mv (.l 15), none⟩])
    (.seq (.region [⟨(.l 16), .mv (.p 2), none⟩,
       ⟨(.l 17), .bin .neq (.l 16) (.c (.int .i64 (0))), none⟩])
     (.cond (.l 17)
      (.seq (.region [⟨(.l 18), .mv (.p 2), none⟩,
         ⟨(.p 1), .mv (.l 18), none⟩])
       (.ret))
      (.skip))))
   (.seq (.seq (.region [⟨(.l 19), .mv (.p 0), none⟩,
       ⟨(.p 5), .len .sl (.l 19), none⟩,
       ⟨(.p 6), .mv (.c (.int .i64 (0))), none⟩])
     (.block 0
      (.loop b62_0)))
    (.seq (.region [⟨(.p 1), .mv (.c (.int .i64 (0))), none⟩])
     (.ret))))
theorem ft62 : FT 62 = some ⟨31, [0, 2, 3, 4, 5, 20, 21], [.var (.p 1)], b62⟩ := by kernel_rfl

/-- stadion/field.checkName -/
def b76 : ICode :=
 .seq (.region [⟨(.p 2), .mv (.c (.int .i64 (0))), none⟩])
  (.seq (.draw [(⟨(.l 5), .mv (.p 0), none⟩, []),
     (⟨(.l 6), .mv (.p 1), none⟩, [0]),
     (⟨(.l 7), .iaddr none 1 (.l 5) (.l 6), none⟩, []),
     (⟨(.l 8), .load 1 false (.l 7), none⟩, []),
     (⟨(.l 9), .call (.c (.fn (.func 67) [] [])) [(.l 8)], none⟩, []),
     (⟨(.l 10), .un .not (.l 9), none⟩, []),
     (⟨(.l 11), .call (.c (.fn (.func 64) [] [])) [(.l 10), (.c (.int .i64 (8)))], none⟩, []),
     (⟨(.l 12), .mv (.p 0), none⟩, [0, 1, 2, 3, 4, 5, 6]),
     (⟨(.l 13), .mv (.p 1), none⟩, [0, 1, 2, 3, 4, 5, 6, 7]),
     (⟨(.l 14), .slice .sl 1 (.l 12) none (some (.l 13)) none, none⟩, [0, 1, 2, 3, 4, 5, 6]),
     (⟨(.l 15), .mv (.p 0), none⟩, [0, 1, 2, 3, 4, 5, 6, 7, 8, 9]),
     (⟨(.l 16), .mv (.p 1), none⟩, [0, 1, 2, 3, 4, 5, 6, 7, 8, 9, 10]),
     (⟨(.l 17), .iaddr none 1 (.l 15) (.l 16), none⟩, [0, 1, 2, 3, 4, 5, 6, 7, 8, 9]),
     (⟨(.l 18), .load 1 false (.l 17), none⟩, [0, 1, 2, 3, 4, 5, 6, 7, 8, 9]),
     (⟨(.l 19), .call (.c (.fn (.func 126) [] [])) [(.l 14), (.l 18)], none⟩, []),
     (⟨(.l 20), .call (.c (.fn (.func 64) [] [])) [(.l 19), (.c (.int .i64 (9)))], none⟩, []),
     (⟨(.l 21), .bslice 30 2 1 [.int .i64 (0)] [(0, 1, (.l 11)), (1, 1, (.l 20))], none⟩, []),
     (⟨(.l 22), .call (.c (.fn (.func 61) [] [])) [(.l 21)], none⟩, []),
     (⟨(.p 2), .mv (.l 22), none⟩, [])])
   (.ret))
theorem ft76 : FT 76 = some ⟨23, [0, 1, 4], [.var (.p 2)], b76⟩ := by kernel_rfl

def b61_0 : ICode :=
 .seq (.region [⟨(.l 8), .bin .lss (.p 5) (.p 4), none⟩])
  (.seq (.cond (.l 8)
    (.skip)
    (.exit 0))
   (.seq (.block 1
     (.seq (.region [⟨(.l 9), .iaddr none 1 (.p 3) (.p 5), none⟩,
        ⟨(.l 10), .load 1 false (.l 9), none⟩,
        ⟨(.p 2), .mv (.l 10), none⟩])
      (.seq (.region [⟨(.l 11), .mv (.p 2), none⟩,
         ⟨(.l 12), .bin .neq (.l 11) (.c (.int .i64 (0))), none⟩])
       (.cond (.l 12)
        (.seq (.region [⟨(.l 13), .mv (.p 2), none⟩,
           ⟨(.p 1), .mv (.l 13), none⟩])
         (.ret))
        (.skip)))))
    (.region [⟨(.l 14), .bin .add (.p 5) (.c (.int .i64 (1))), none⟩,
      ⟨(.p 5), .mv (.l 14), none⟩])))
/-- stadion/field.first -/
def b61 : ICode :=
 .seq (.region [⟨(.p 1), .mv (.c (.int .i64 (0))), none⟩])
  (.seq (.seq (.region [⟨(.p 3), .mv (.p 0), none⟩,
      ⟨(.p 4), .len .sl (.p 3), none⟩,
      ⟨(.p 5), .mv (.c (.int .i64 (0))), none⟩])
    (.block 0
     (.loop b61_0)))
   (.seq (.region [⟨(.p 1), .mv (.c (.int .i64 (0))), none⟩])
    (.ret)))
theorem ft61 : FT 61 = some ⟨15, [0, 2, 4, 5, 6, 7], [.var (.p 1)], b61⟩ := by kernel_rfl

/-- stadion/field.when -/
def b64 : ICode :=
 .seq (.region [⟨(.p 2), .mv (.c (.int .i64 (0))), none⟩])
  (.seq (.seq (.region [⟨(.l 5), .mv (.p 0), none⟩])
    (.cond (.l 5)
     (.seq (.region [⟨(.l 6), .mv (.p 1), none⟩,
        ⟨(.p 2), .mv (.l 6), none⟩])
      (.ret))
     (.skip)))
   (.seq (.region [⟨(.p 2), .mv (.c (.int .i64 (0))), none⟩])
    (.ret)))
theorem ft64 : FT 64 = some ⟨7, [0, 1, 4], [.var (.p 2)], b64⟩ := by kernel_rfl

/-- stadion/field.within -/
def b63 : ICode :=
 .seq (.region [⟨(.p 3), .mv (.c (.int .i64 (0))), none⟩])
  (.seq (.region [⟨(.l 7), .mv (.p 0), none⟩,
     ⟨(.l 8), .mv (.p 1), none⟩,
     ⟨(.l 9), .bin .lss (.l 7) (.l 8), none⟩,
     ⟨(.l 10), .mv (.l 9), none⟩,
     ⟨(.l 11), .mv (.p 0), some ((.l 10), false)⟩,
     ⟨(.l 12), .mv (.p 2), some ((.l 10), false)⟩,
     ⟨(.l 13), .bin .gtr (.l 11) (.l 12), some ((.l 10), false)⟩,
     ⟨(.l 14), .pick (.l 10) (.c (.bool true)) (.l 13), none⟩,
     ⟨(.l 15), .call (.c (.fn (.func 64) [] [])) [(.l 14), (.c (.int .i64 (3)))], none⟩,
     ⟨(.p 3), .mv (.l 15), none⟩])
   (.ret))
theorem ft63 : FT 63 = some ⟨16, [0, 1, 2, 6], [.var (.p 3)], b63⟩ := by kernel_rfl

def b65_0 : ICode :=
 .seq (.seq (.region [⟨(.l 11), .mv (.p 2), none⟩,
     ⟨(.l 12), .mv (.p 0), none⟩,
     ⟨(.l 13), .len .sl (.l 12), none⟩,
     ⟨(.l 14), .bin .lss (.l 11) (.l 13), none⟩])
   (.cond (.l 14)
    (.skip)
    (.exit 0)))
  (.seq (.block 1
    (.seq (.region [⟨(.l 17), .mv (.p 0), none⟩,
       ⟨(.l 18), .mv (.p 2), none⟩,
       ⟨(.l 19), .call (.c (.fn (.func 73) [] [])) [(.l 17), (.l 18)], none⟩,
       ⟨(.p 3), .mv (.l 19), none⟩])
     (.seq (.region [⟨(.l 20), .mv (.p 3), none⟩,
        ⟨(.l 21), .bin .neq (.l 20) (.c (.int .i64 (0))), none⟩])
      (.cond (.l 21)
       (.seq (.region [⟨(.l 22), .mv (.p 3), none⟩,
          ⟨(.p 1), .mv (.l 22), none⟩])
        (.ret))
       (.skip)))))
   (.region [⟨(.l 15), .mv (.p 2), none⟩,
     ⟨(.l 16), .bin .add (.l 15) (.c (.int .i64 (1))), none⟩,
     ⟨(.p 2), .mv (.l 16), none⟩]))
/-- stadion/stadionref06.CheckAthletes -/
def b65 : ICode :=
 .seq (.region [⟨(.p 1), .mv (.c (.int .i64 (0))), none⟩])
  (.seq (.seq (.region [⟨(.l 5), .mv (.p 0), none⟩,
      ⟨(.l 6), .len .sl (.l 5), none⟩,
      ⟨(.l 7), .bin .eql (.l 6) (.c (.int .i64 (0))), none⟩])
    (.cond (.l 7)
     (.seq (.region [⟨(.p 1), .mv (.c (.int .i64 (12))), none⟩])
      (.ret))
     (.skip)))
   (.seq (.seq (.region [⟨(.l 8), .mv (.p 0), none⟩,
       ⟨(.l 9), .len .sl (.l 8), none⟩,
       ⟨(.l 10), .bin .gtr (.l 9) (.c (.int .i64 (32))), none⟩])
     (.cond (.l 10)
      (.seq (.region [⟨(.p 1), .mv (.c (.int .i64 (5))), none⟩])
       (.ret))
      (.skip)))
    (.seq (.seq (.region [⟨(.p 2), .mv (.c (.int .i64 (0))), none⟩])
      (.block 0
       (.loop b65_0)))
     (.seq (.region [⟨(.p 1), .mv (.c (.int .i64 (0))), none⟩])
      (.ret)))))
theorem ft65 : FT 65 = some ⟨23, [0, 2, 3, 4], [.var (.p 1)], b65⟩ := by kernel_rfl

def b73_0 : ICode :=
 .seq (.seq (.region [⟨(.l 12), .mv (.p 3), none⟩,
     ⟨(.l 13), .mv (.p 1), none⟩,
     ⟨(.l 14), .bin .lss (.l 12) (.l 13), none⟩])
   (.cond (.l 14)
    (.skip)
    (.exit 0)))
  (.seq (.block 1
    (.seq (.draw [(⟨(.l 17), .mv (.p 0), none⟩, []),
       (⟨(.l 18), .mv (.p 3), none⟩, [0]),
       (⟨(.l 19), .iaddr none 1 (.l 17) (.l 18), none⟩, []),
       (⟨(.l 20), .load 1 false (.l 19), none⟩, []),
       (⟨(.l 21), .mv (.p 0), none⟩, [0, 1, 2, 3]),
       (⟨(.l 22), .mv (.p 1), none⟩, [0, 1, 2, 3, 4]),
       (⟨(.l 23), .iaddr none 1 (.l 21) (.l 22), none⟩, [0, 1, 2, 3]),
       (⟨(.l 24), .load 1 false (.l 23), none⟩, [0, 1, 2, 3]),
       (⟨(.l 25), .bin .eql (.l 20) (.l 24), none⟩, [])])
     (.cond (.l 25)
      (.seq (.region [⟨(.p 2), .mv (.c (.int .i64 (9))), none⟩])
       (.ret))
      (.skip))))
   (.region [⟨(.l 15), .mv (.p 3), none⟩,
     ⟨(.l 16), .bin .add (.l 15) (.c (.int .i64 (1))), none⟩,
     ⟨(.p 3), .mv (.l 16), none⟩]))
/-- stadion/stadionref06.checkName -/
def b73 : ICode :=
 .seq (.region [⟨(.p 2), .mv (.c (.int .i64 (0))), none⟩])
  (.seq (.seq (.region [⟨(.l 6), .mv (.p 0), none⟩,
      ⟨(.l 7), .mv (.p 1), none⟩,
      ⟨(.l 8), .iaddr none 1 (.l 6) (.l 7), none⟩,
      ⟨(.l 9), .load 1 false (.l 8), none⟩,
      ⟨(.l 10), .call (.c (.fn (.func 68) [] [])) [(.l 9)], none⟩,
      ⟨(.l 11), .un .not (.l 10), none⟩])
    (.cond (.l 11)
     (.seq (.region [⟨(.p 2), .mv (.c (.int .i64 (8))), none⟩])
      (.ret))
     (.skip)))
   (.seq (.seq (.region [⟨(.p 3), .mv (.c (.int .i64 (0))), none⟩])
     (.block 0
      (.loop b73_0)))
    (.seq (.region [⟨(.p 2), .mv (.c (.int .i64 (0))), none⟩])
     (.ret))))
theorem ft73 : FT 73 = some ⟨26, [0, 1, 4, 5], [.var (.p 2)], b73⟩ := by kernel_rfl

def b67_0 : ICode :=
 .seq (.region [⟨(.p 6), .next (.p 5), none⟩,
    ⟨(.l 9), .extract 0 (.p 6), none⟩])
  (.seq (.cond (.l 9)
    (.skip)
    (.exit 0))
   (.block 1
    (.seq (.region [⟨(.l 10), .extract 1 (.p 6), none⟩,
       ⟨(.l 11), .extract 2 (.p 6), none⟩,
       ⟨(.p 2), .mv (.l 10), none⟩,
       ⟨(.p 3), .mv (.l 11), none⟩])
     (.seq (.region [⟨(.l 12), .mv (.p 3), none⟩,
        ⟨(.l 13), .bin .geq (.l 12) (.c (.int .i32 (97))), none⟩,
        ⟨(.l 14), .mv (.l 13), none⟩,
        ⟨(.l 15), .mv (.p 3), some ((.l 14), true)⟩,
        ⟨(.l 16), .bin .leq (.l 15) (.c (.int .i32 (122))), some ((.l 14), true)⟩,
        ⟨(.l 17), .pick (.l 14) (.l 16) (.c (.bool false)), none⟩,
        ⟨(.l 18), .mv (.l 17), none⟩,
        ⟨(.l 19), .mv (.p 3), some ((.l 18), false)⟩,
        ⟨(.l 20), .bin .geq (.l 19) (.c (.int .i32 (65))), some ((.l 18), false)⟩,
        ⟨(.l 21), .mv (.l 20), some ((.l 18), false)⟩,
        ⟨(.l 22), .mv (.p 3), some ((.l 21), true)⟩,
        ⟨(.l 23), .bin .leq (.l 22) (.c (.int .i32 (90))), some ((.l 21), true)⟩,
        ⟨(.l 24), .pick (.l 21) (.l 23) (.c (.bool false)), some ((.l 18), false)⟩,
        ⟨(.l 25), .pick (.l 18) (.c (.bool true)) (.l 24), none⟩,
        ⟨(.p 4), .mv (.l 25), none⟩])
      (.seq (.region [⟨(.l 26), .mv (.p 4), none⟩,
         ⟨(.l 27), .un .not (.l 26), none⟩,
         ⟨(.l 28), .mv (.l 27), none⟩,
         ⟨(.l 29), .mv (.p 2), some ((.l 28), true)⟩,
         ⟨(.l 30), .bin .eql (.l 29) (.c (.int .i64 (0))), some ((.l 28), true)⟩,
         ⟨(.l 31), .mv (.l 30), some ((.l 28), true)⟩,
         ⟨(.l 32), .mv (.p 3), some ((.l 31), false)⟩,
         ⟨(.l 33), .bin .neq (.l 32) (.c (.int .i32 (95))), some ((.l 31), false)⟩,
         ⟨(.l 34), .mv (.l 33), some ((.l 31), false)⟩,
         ⟨(.l 35), .mv (.p 3), some ((.l 34), true)⟩,
         ⟨(.l 36), .bin .lss (.l 35) (.c (.int .i32 (48))), some ((.l 34), true)⟩,
         ⟨(.l 37), .mv (.l 36), some ((.l 34), true)⟩,
         ⟨(.l 38), .mv (.p 3), some ((.l 37), false)⟩,
         ⟨(.l 39), .bin .gtr (.l 38) (.c (.int .i32 (57))), some ((.l 37), false)⟩,
         ⟨(.l 40), .pick (.l 37) (.c (.bool true)) (.l 39), some ((.l 34), true)⟩,
         ⟨(.l 41), .pick (.l 34) (.l 40) (.c (.bool false)), some ((.l 31), false)⟩,
         ⟨(.l 42), .pick (.l 31) (.c (.bool true)) (.l 41), some ((.l 28), true)⟩,
         ⟨(.l 43), .pick (.l 28) (.l 42) (.c (.bool false)), none⟩])
       (.cond (.l 43)
        (.seq (.region [⟨(.p 1), .mv (.c (.bool false)), none⟩])
         (.ret))
        (.skip)))))))
/-- stadion/mark.IsName -/
def b67 : ICode :=
 .seq (.region [⟨(.p 1), .mv (.c (.bool false)), none⟩])
  (.seq (.seq (.region [⟨(.l 6), .mv (.p 0), none⟩,
      ⟨(.p 5), .range (.l 6), none⟩])
    (.block 0
     (.loop b67_0)))
   (.seq (.region [⟨(.l 44), .mv (.p 0), none⟩,
      ⟨(.l 45), .len .str (.l 44), none⟩,
      ⟨(.l 46), .bin .gtr (.l 45) (.c (.int .i64 (0))), none⟩,
      ⟨(.l 47), .mv (.l 46), none⟩,
      ⟨(.l 48), .mv (.p 0), some ((.l 47), true)⟩,
      ⟨(.l 49), .len .str (.l 48), some ((.l 47), true)⟩,
      ⟨(.l 50), .bin .leq (.l 49) (.c (.int .i64 (24))), some ((.l 47), true)⟩,
      ⟨(.l 51), .pick (.l 47) (.l 50) (.c (.bool false)), none⟩,
      ⟨(.p 1), .mv (.l 51), none⟩])
    (.ret)))
theorem ft67 : FT 67 = some ⟨52, [0, 2, 3, 4, 5, 7, 8], [.var (.p 1)], b67⟩ := by kernel_rfl

def b68_0 : ICode :=
 .seq (.seq (.region [⟨(.l 14), .mv (.p 2), none⟩,
     ⟨(.l 15), .mv (.p 0), none⟩,
     ⟨(.l 16), .len .str (.l 15), none⟩,
     ⟨(.l 17), .bin .lss (.l 14) (.l 16), none⟩])
   (.cond (.l 17)
    (.skip)
    (.exit 0)))
  (.seq (.block 1
    (.seq (.region [⟨(.l 20), .mv (.p 0), none⟩,
       ⟨(.l 21), .mv (.p 2), none⟩,
       ⟨(.l 22), .index (.l 20) (.l 21), none⟩,
       ⟨(.p 3), .mv (.l 22), none⟩])
     (.seq (.region [⟨(.l 23), .mv (.p 3), none⟩,
        ⟨(.l 24), .bin .geq (.l 23) (.c (.int .u8 (97))), none⟩,
        ⟨(.l 25), .mv (.l 24), none⟩,
        ⟨(.l 26), .mv (.p 3), some ((.l 25), true)⟩,
        ⟨(.l 27), .bin .leq (.l 26) (.c (.int .u8 (122))), some ((.l 25), true)⟩,
        ⟨(.l 28), .pick (.l 25) (.l 27) (.c (.bool false)), none⟩,
        ⟨(.l 29), .mv (.l 28), none⟩,
        ⟨(.l 30), .mv (.p 3), some ((.l 29), false)⟩,
        ⟨(.l 31), .bin .geq (.l 30) (.c (.int .u8 (65))), some ((.l 29), false)⟩,
        ⟨(.l 32), .mv (.l 31), some ((.l 29), false)⟩,
        ⟨(.l 33), .mv (.p 3), some ((.l 32), true)⟩,
        ⟨(.l 34), .bin .leq (.l 33) (.c (.int .u8 (90))), some ((.l 32), true)⟩,
        ⟨(.l 35), .pick (.l 32) (.l 34) (.c (.bool false)), some ((.l 29), false)⟩,
        ⟨(.l 36), .pick (.l 29) (.c (.bool true)) (.l 35), none⟩,
        ⟨(.p 4), .mv (.l 36), none⟩])
      (.seq (.region [⟨(.l 37), .mv (.p 4), none⟩,
         ⟨(.l 38), .un .not (.l 37), none⟩,
         ⟨(.l 39), .mv (.l 38), none⟩,
         ⟨(.l 40), .mv (.p 2), some ((.l 39), true)⟩,
         ⟨(.l 41), .bin .eql (.l 40) (.c (.int .i64 (0))), some ((.l 39), true)⟩,
         ⟨(.l 42), .mv (.l 41), some ((.l 39), true)⟩,
         ⟨(.l 43), .mv (.p 3), some ((.l 42), false)⟩,
         ⟨(.l 44), .bin .geq (.l 43) (.c (.int .u8 (48))), some ((.l 42), false)⟩,
         ⟨(.l 45), .mv (.l 44), some ((.l 42), false)⟩,
         ⟨(.l 46), .mv (.p 3), some ((.l 45), true)⟩,
         ⟨(.l 47), .bin .leq (.l 46) (.c (.int .u8 (57))), some ((.l 45), true)⟩,
         ⟨(.l 48), .pick (.l 45) (.l 47) (.c (.bool false)), some ((.l 42), false)⟩,
         ⟨(.l 49), .mv (.l 48), some ((.l 42), false)⟩,
         ⟨(.l 50), .mv (.p 3), some ((.l 49), false)⟩,
         ⟨(.l 51), .bin .eql (.l 50) (.c (.int .u8 (95))), some ((.l 49), false)⟩,
         ⟨(.l 52), .pick (.l 49) (.c (.bool true)) (.l 51), some ((.l 42), false)⟩,
         ⟨(.l 53), .un .not (.l 52), some ((.l 42), false)⟩,
         ⟨(.l 54), .pick (.l 42) (.c (.bool true)) (.l 53), some ((.l 39), true)⟩,
         ⟨(.l 55), .pick (.l 39) (.l 54) (.c (.bool false)), none⟩])
       (.cond (.l 55)
        (.seq (.region [⟨(.p 1), .mv (.c (.bool false)), none⟩])
         (.ret))
        (.skip))))))
   (.region [⟨(.l 18), .mv (.p 2), none⟩,
     ⟨(.l 19), .bin .add (.l 18) (.c (.int .i64 (1))), none⟩,
     ⟨(.p 2), .mv (.l 19), none⟩]))
/-- stadion/stadionref01.IsName -/
def b68 : ICode :=
 .seq (.region [⟨(.p 1), .mv (.c (.bool false)), none⟩])
  (.seq (.seq (.region [⟨(.l 6), .mv (.p 0), none⟩,
      ⟨(.l 7), .len .str (.l 6), none⟩,
      ⟨(.l 8), .bin .lss (.l 7) (.c (.int .i64 (1))), none⟩,
      ⟨(.l 9), .mv (.l 8), none⟩,
      ⟨(.l 10), .mv (.p 0), some ((.l 9), false)⟩,
      ⟨(.l 11), .len .str (.l 10), some ((.l 9), false)⟩,
      ⟨(.l 12), .bin .gtr (.l 11) (.c (.int .i64 (24))), some ((.l 9), false)⟩,
      ⟨(.l 13), .pick (.l 9) (.c (.bool true)) (.l 12), none⟩])
    (.cond (.l 13)
     (.seq (.region [⟨(.p 1), .mv (.c (.bool false)), none⟩])
      (.ret))
     (.skip)))
   (.seq (.seq (.region [⟨(.p 2), .mv (.c (.int .i64 (0))), none⟩])
     (.block 0
      (.loop b68_0)))
    (.seq (.region [⟨(.p 1), .mv (.c (.bool true)), none⟩])
     (.ret))))
theorem ft68 : FT 68 = some ⟨56, [0, 2, 3, 4, 5], [.var (.p 1)], b68⟩ := by kernel_rfl

/-- slices.Contains[[]string,string] -/
def b126 : ICode :=
 .seq (.region [⟨(.p 2), .mv (.c (.bool false)), none⟩])
  (.seq (.region [⟨(.l 5), .mv (.p 0), none⟩,
     ⟨(.l 6), .mv (.p 1), none⟩,
     ⟨(.l 7), .call (.c (.fn (.func 186) [] [])) [(.l 5), (.l 6)], none⟩,
     ⟨(.l 8), .bin .geq (.l 7) (.c (.int .i64 (0))), none⟩,
     ⟨(.p 2), .mv (.l 8), none⟩])
   (.ret))
theorem ft126 : FT 126 = some ⟨9, [0, 1, 4], [.var (.p 2)], b126⟩ := by kernel_rfl

def b186_0 : ICode :=
 .seq (.region [⟨(.l 9), .bin .lss (.p 5) (.p 4), none⟩])
  (.seq (.cond (.l 9)
    (.skip)
    (.exit 0))
   (.seq (.block 1
     (.seq (.region [⟨(.l 10), .mv (.p 5), none⟩,
        ⟨(.p 3), .mv (.l 10), none⟩])
      (.seq (.region [⟨(.l 11), .mv (.p 1), none⟩,
         ⟨(.l 12), .mv (.p 0), none⟩,
         ⟨(.l 13), .mv (.p 3), none⟩,
         ⟨(.l 14), .iaddr none 1 (.l 12) (.l 13), none⟩,
         ⟨(.l 15), .load 1 false (.l 14), none⟩,
         ⟨(.l 16), .bin .eql (.l 11) (.l 15), none⟩])
       (.cond (.l 16)
        (.seq (.region [⟨(.l 17), .mv (.p 3), none⟩,
           ⟨(.p 2), .mv (.l 17), none⟩])
         (.ret))
        (.skip)))))
    (.region [⟨(.l 18), .bin .add (.p 5) (.c (.int .i64 (1))), none⟩,
      ⟨(.p 5), .mv (.l 18), none⟩])))
/-- slices.Index[[]string,string] -/
def b186 : ICode :=
 .seq (.region [⟨(.p 2), .mv (.c (.int .i64 (0))), none⟩])
  (.seq (.seq (.region [⟨(.l 6), .mv (.p 0), none⟩,
      ⟨(.p 4), .len .sl (.l 6), none⟩,
      ⟨(.p 5), .mv (.c (.int .i64 (0))), none⟩])
    (.block 0
     (.loop b186_0)))
   (.seq (.region [⟨(.p 2), .mv (.c (.int .i64 (-1))), none⟩])
    (.ret)))
theorem ft186 : FT 186 = some ⟨19, [0, 1, 4, 5, 7, 8], [.var (.p 2)], b186⟩ := by kernel_rfl

end Go.Ab.Ch6


/-
  Own work: chapter 6: names, contests and heights: their first errors, in plain Lean.
-/
namespace Go.Ab.Ch6

/-! Names. -/
def letterI (c : Int) : Bool := (decide (97 ≤ c) && decide (c ≤ 122)) || (decide (65 ≤ c) && decide (c ≤ 90))
def restI (c : Int) : Bool := letterI c || (decide (c = 95) || (decide (48 ≤ c) && decide (c ≤ 57)))
/-- Whether the byte at a place may stand there. -/
def okAt (i : Nat) (c : Int) : Bool := if i = 0 then letterI c else restI c
def nameB : Str → Nat → Bool
  | [], _ => true
  | b :: r, i => okAt i b.toNat && nameB r (i + 1)
def isName (s : Str) : Bool := nameB s 0 && decide (0 < s.length) && decide (s.length ≤ 24)
theorem nameB_drop {s : Str} {i : Nat} (h : i < s.length) : nameB (s.drop i) i = (okAt i (s[i]!).toNat && nameB (s.drop (i + 1)) (i + 1)) := by
  rw [List.drop_eq_getElem_cons h, getElem!_pos s i h, nameB]
theorem okAt_ge {i : Nat} {c : Int} (h : 128 ≤ c) : okAt i c = false := by
  unfold okAt restI letterI
  split <;> simp <;> omega

theorem okAt_iff {i : Nat} {c : Int} : okAt i c = true ↔ ((97 ≤ c ∧ c ≤ 122) ∨ (65 ≤ c ∧ c ≤ 90)) ∨ (i ≠ 0 ∧ (c = 95 ∨ (48 ≤ c ∧ c ≤ 57))) := by
  unfold okAt restI letterI
  split <;> simp_all
theorem okAt_no {i : Nat} {c : Int} (h : ¬ (((97 ≤ c ∧ c ≤ 122) ∨ (65 ≤ c ∧ c ≤ 90)) ∨ (i ≠ 0 ∧ (c = 95 ∨ (48 ≤ c ∧ c ≤ 57))))) : okAt i c = false := by
  cases h' : okAt i c
  · rfl
  · exact absurd (okAt_iff.1 h') h

/-- The error of the name at a place. -/
def nameE (l : List Str) (i : Nat) : Int := if isName l[i]! = false then 8 else if l[i]! ∈ l.take i then 9 else 0
/-- The first error of so many names from a place on. -/
def namesE (l : List Str) : Nat → Nat → Int
  | 0, _ => 0
  | r + 1, i => if nameE l i = 0 then namesE l r (i + 1) else nameE l i
def athE (l : List Str) : Int := if l.length = 0 then 12 else if 32 < l.length then 5 else namesE l l.length 0

def contestE (l : List Str) (t f m : Int) : Int :=
  if athE l ≠ 0 then athE l else if t < 1 ∨ 6 < t ∨ m < 0 ∨ 6 - t < m then 3 else if m = 0 then (if f ≠ 0 then 3 else 0) else if f < 1 ∨ 32 < f then 3 else 0

/-- The first error of heights above a last one. -/
def heightE (last h : Int) : Int := if h < 10 ∨ 999999 < h then 3 else if h % 10 ≠ 0 then 3 else if h ≤ last then 11 else 0
def heightsE : Int → List Int → Int
  | _, [] => 0
  | last, h :: r => if heightE last h = 0 then heightsE h r else heightE last h
def stepE (s : Int) : Int := if s < 10 ∨ 1000 < s then 3 else if s % 10 ≠ 0 then 3 else 0
def verticalE (l : List Str) (hs : List Int) (step : Int) : Int :=
  if athE l ≠ 0 then athE l else if hs.length = 0 then 12 else if 24 < hs.length then 5 else if heightsE 0 hs ≠ 0 then heightsE 0 hs else stepE step

def shortN (l : List Str) : Bool := decide (l.length ≤ 35) && l.all (fun s => decide (s.length ≤ 40))
end Go.Ab.Ch6


/-
  Own work: chapter 6: names.
-/
namespace Go.Ab.Ch6
variable {M : Mach} {cap : Option Nat}

/-! mark.IsName. -/
theorem loop67 (s : Str) (hl : s.length < 4611686018427387904) {Q : Ex → StW → Prop} : ∀ (r i : Nat) (a2 a3 a4 a6 : AV) (lo : List (Nat × AV)) (wr : List Nat), i + r = s.length →
    (nameB (s.drop i) i = true → ∀ a2 a3 a4 a6 lo J wr, Q (.exit 0) ⟨⟨[.str s, .bool false, a2, a3, a4, .ptr 0 0, a6], lo, J, []⟩, wr⟩) →
    (nameB (s.drop i) i = false → ∀ a2 a3 a4 a6 lo J wr, Q .ret ⟨⟨[.str s, .bool false, a2, a3, a4, .ptr 0 0, a6], lo, J, []⟩, wr⟩) →
    W M (.loop b67_0) ⟨⟨[.str s, .bool false, a2, a3, a4, .ptr 0 0, a6], lo, [] ++ [some (.iter s i)], []⟩, wr⟩ Q
  | 0, i, a2, a3, a4, a6, lo, wr, hi, h1, h2 => by
    obtain rfl : i = s.length := by omega
    refine W.loop ?_
    unfold b67_0
    repeat' first | (apply WO.nxF; exact rfl; omega) | apply W.seq | apply SQn | apply W.region | apply WO.nil | apply W.block | apply W.ret | apply W.exit | apply W.skip | apply SQr | apply SQe | apply BQn | apply BQr | apply BQe | (apply BQo; exact rfl) | apply LQe | apply LQr | (apply W.condT; exact rfl) | (apply W.condF; exact rfl) | (apply W.cond; exact rfl; all_goals intro _) | (apply WO.gT; exact rfl) | (apply WO.gF; exact rfl) | (apply WO.sT; exact rfl) | (apply WO.sF; exact rfl) | (apply WO.sU; exact rfl) | (apply WO.lss; exact rfl; exact rfl; all_goals first | (intro _; exfalso; omega) | intro _) | (apply WO.leq; exact rfl; exact rfl; all_goals first | (intro _; exfalso; omega) | intro _) | (apply WO.gtr; exact rfl; exact rfl; all_goals first | (intro _; exfalso; omega) | intro _) | (apply WO.geq; exact rfl; exact rfl; all_goals first | (intro _; exfalso; omega) | intro _) | (apply WO.eql; exact rfl; exact rfl; all_goals first | (intro _; exfalso; omega) | intro _) | (apply WO.neq; exact rfl; exact rfl; all_goals first | (intro _; exfalso; omega) | intro _) | (apply WO.pkT; exact rfl; exact rfl) | (apply WO.pkF; exact rfl; exact rfl) | (apply WO.seql; exact rfl; exact rfl; all_goals first | (intro h; exact absurd h (by decide)) | (intro h; exact absurd rfl h) | (intro h; contradiction) | intro _) | (apply WO.sneq; exact rfl; exact rfl; all_goals first | (intro h; exact absurd h (by decide)) | (intro h; exact absurd rfl h) | (intro h; contradiction) | intro _) | (apply WO.hlv; exact rfl; exact rfl; exact rfl) | (apply WO.hpv; exact rfl; exact rfl; exact rfl) | (apply WO.hnv; exact rfl; exact rfl; exact rfl) | (apply WO.pl; exact rfl; exact rfl) | (apply WO.pp; exact rfl; exact rfl)
    exact h1 (by simp [nameB]) _ _ _ _ _ _ _
  | r + 1, i, a2, a3, a4, a6, lo, wr, hi, h1, h2 => by
    have e := nameB_drop (s := s) (i := i) (by omega)
    have step : ∀ (c : Nat) (w : Nat), Utf8.decode ⟨s.toArray⟩ i = (c, w) → (okAt i c = true → w = 1 ∧ nameB (s.drop i) i = nameB (s.drop (i + 1)) (i + 1)) → (okAt i c = false → nameB (s.drop i) i = false) → W M (.loop b67_0) ⟨⟨[.str s, .bool false, a2, a3, a4, .ptr 0 0, a6], lo, [] ++ [some (.iter s i)], []⟩, wr⟩ Q := by
      intro c w hd ht hf
      refine W.loop ?_
      unfold b67_0
      have go : ∀ a2 a3 a4 a6 lo wr, okAt i c = true → LQ M b67_0 Q .normal ⟨⟨[.str s, .bool false, a2, a3, a4, .ptr 0 0, a6], lo, [] ++ [some (.iter s (i + w))], []⟩, wr⟩ := fun a2 a3 a4 a6 lo wr h => by
        obtain ⟨rfl, e1⟩ := ht h
        rw [e1] at h1 h2
        exact LQn (loop67 s hl r (i + 1) _ _ _ _ _ _ (by omega) h1 h2)
      have stop : ∀ a2 a3 a4 a6 lo J wr, okAt i c = false → Q .ret ⟨⟨[.str s, .bool false, a2, a3, a4, .ptr 0 0, a6], lo, J, []⟩, wr⟩ := fun a2 a3 a4 a6 lo J wr h => h2 (hf h) _ _ _ _ _ _ _
      repeat' first | (apply WO.nxT; exact rfl; omega; exact hd) | apply W.seq | apply SQn | apply W.region | apply WO.nil | apply W.block | apply W.ret | apply W.exit | apply W.skip | apply SQr | apply SQe | apply BQn | apply BQr | apply BQe | (apply BQo; exact rfl) | apply LQe | apply LQr | (apply W.condT; exact rfl) | (apply W.condF; exact rfl) | (apply W.cond; exact rfl; all_goals intro _) | (apply WO.gT; exact rfl) | (apply WO.gF; exact rfl) | (apply WO.sT; exact rfl) | (apply WO.sF; exact rfl) | (apply WO.sU; exact rfl) | (apply WO.lss; exact rfl; exact rfl; all_goals first | (intro _; exfalso; omega) | intro _) | (apply WO.leq; exact rfl; exact rfl; all_goals first | (intro _; exfalso; omega) | intro _) | (apply WO.gtr; exact rfl; exact rfl; all_goals first | (intro _; exfalso; omega) | intro _) | (apply WO.geq; exact rfl; exact rfl; all_goals first | (intro _; exfalso; omega) | intro _) | (apply WO.eql; exact rfl; exact rfl; all_goals first | (intro _; exfalso; omega) | intro _) | (apply WO.neq; exact rfl; exact rfl; all_goals first | (intro _; exfalso; omega) | intro _) | (apply WO.pkT; exact rfl; exact rfl) | (apply WO.pkF; exact rfl; exact rfl) | (apply WO.seql; exact rfl; exact rfl; all_goals first | (intro h; exact absurd h (by decide)) | (intro h; exact absurd rfl h) | (intro h; contradiction) | intro _) | (apply WO.sneq; exact rfl; exact rfl; all_goals first | (intro h; exact absurd h (by decide)) | (intro h; exact absurd rfl h) | (intro h; contradiction) | intro _) | (apply WO.hlv; exact rfl; exact rfl; exact rfl) | (apply WO.hpv; exact rfl; exact rfl; exact rfl) | (apply WO.hnv; exact rfl; exact rfl; exact rfl) | (apply WO.pl; exact rfl; exact rfl) | (apply WO.pp; exact rfl; exact rfl)
      all_goals first
        | exact go _ _ _ _ _ _ (okAt_iff.2 (by omega))
        | exact stop _ _ _ _ _ _ _ (okAt_no (by omega))
    by_cases hb : (s[i]!).toNat < 128
    · exact step _ _ (dec_ascii (by omega) hb) (fun h => ⟨rfl, by rw [e, h, Bool.true_and]⟩) (fun h => by rw [e, h, Bool.false_and])
    · obtain ⟨c, w, hd, hc⟩ := dec_other (s := s) (i := i) (by omega) hb
      refine step c w hd (fun h => ?_) (fun _ => ?_)
      · rw [okAt_ge (by omega)] at h; cases h
      · rw [e, okAt_ge (by omega), Bool.false_and]
theorem w67 (hft : M.FT = FT) (s : Str) (hl : s.length < 4611686018427387904) : Run M 67 [.str s] [] ⟨.bool (isName s), [], []⟩ := by
  refine run_of_W (by rw [hft]; exact ft67) (by simp) ?_
  unfold b67
  simp only [List.map_cons, List.map_nil, List.getElem?_cons_zero, List.getElem?_cons_succ, List.getElem?_nil, Option.getD_some, Option.getD_none]
  repeat' first | apply W.seq | apply SQn | apply W.region | apply WO.nil | apply W.block | apply W.ret | apply W.exit | apply W.skip | apply SQr | apply SQe | apply BQn | apply BQr | apply BQe | (apply BQo; exact rfl) | apply LQe | apply LQr | (apply W.condT; exact rfl) | (apply W.condF; exact rfl) | (apply W.cond; exact rfl; all_goals intro _) | (apply WO.gT; exact rfl) | (apply WO.gF; exact rfl) | (apply WO.sT; exact rfl) | (apply WO.sF; exact rfl) | (apply WO.sU; exact rfl) | (apply WO.leq; exact rfl; exact rfl; all_goals first | (intro _; exfalso; omega) | intro _) | (apply WO.gtr; exact rfl; exact rfl; all_goals first | (intro _; exfalso; omega) | intro _) | (apply WO.pkT; exact rfl; exact rfl) | (apply WO.pkF; exact rfl; exact rfl) | (apply WO.hlv; exact rfl; exact rfl; exact rfl) | (apply WO.hpv; exact rfl; exact rfl; exact rfl) | (apply WO.hnv; exact rfl; exact rfl; exact rfl) | (apply WO.pl; exact rfl; exact rfl) | (apply WO.pp; exact rfl; exact rfl)
  refine loop67 s hl s.length 0 _ _ _ _ _ _ (by omega) (fun h a2 a3 a4 a6 lo J wr => ?_) (fun h a2 a3 a4 a6 lo J wr => ?_)
  · rw [List.drop_zero] at h
    repeat' first | apply W.seq | apply SQn | apply W.region | apply WO.nil | apply W.block | apply W.ret | apply W.exit | apply W.skip | apply SQr | apply SQe | apply BQn | apply BQr | apply BQe | (apply BQo; exact rfl) | apply LQe | apply LQr | (apply W.condT; exact rfl) | (apply W.condF; exact rfl) | (apply W.cond; exact rfl; all_goals intro _) | (apply WO.gT; exact rfl) | (apply WO.gF; exact rfl) | (apply WO.sT; exact rfl) | (apply WO.sF; exact rfl) | (apply WO.sU; exact rfl) | (apply WO.leq; exact rfl; exact rfl; all_goals first | (intro _; exfalso; omega) | intro _) | (apply WO.gtr; exact rfl; exact rfl; all_goals first | (intro _; exfalso; omega) | intro _) | (apply WO.pkT; exact rfl; exact rfl) | (apply WO.pkF; exact rfl; exact rfl) | (apply WO.hlv; exact rfl; exact rfl; exact rfl) | (apply WO.hpv; exact rfl; exact rfl; exact rfl) | (apply WO.hnv; exact rfl; exact rfl; exact rfl) | (apply WO.pl; exact rfl; exact rfl) | (apply WO.pp; exact rfl; exact rfl)
    all_goals exact ⟨.inr rfl, rfl, _, rfl, congrArg AV.bool (by simp [isName, *] <;> omega), rfl⟩
  · rw [List.drop_zero] at h
    repeat' first | apply W.seq | apply SQn | apply W.region | apply WO.nil | apply W.block | apply W.ret | apply W.exit | apply W.skip | apply SQr | apply SQe | apply BQn | apply BQr | apply BQe | (apply BQo; exact rfl) | apply LQe | apply LQr | (apply W.condT; exact rfl) | (apply W.condF; exact rfl) | (apply W.cond; exact rfl; all_goals intro _) | (apply WO.gT; exact rfl) | (apply WO.gF; exact rfl) | (apply WO.sT; exact rfl) | (apply WO.sF; exact rfl) | (apply WO.sU; exact rfl) | (apply WO.leq; exact rfl; exact rfl; all_goals first | (intro _; exfalso; omega) | intro _) | (apply WO.gtr; exact rfl; exact rfl; all_goals first | (intro _; exfalso; omega) | intro _) | (apply WO.pkT; exact rfl; exact rfl) | (apply WO.pkF; exact rfl; exact rfl) | (apply WO.hlv; exact rfl; exact rfl; exact rfl) | (apply WO.hpv; exact rfl; exact rfl; exact rfl) | (apply WO.hnv; exact rfl; exact rfl; exact rfl) | (apply WO.pl; exact rfl; exact rfl) | (apply WO.pp; exact rfl; exact rfl)
    exact ⟨.inr rfl, rfl, _, rfl, congrArg AV.bool (by simp [isName, h]), rfl⟩

/-! slices.Index, slices.Contains. -/
theorem loop186 (l : List Str) (x : Str) (cap : Option Nat) (hl : l.length < 4611686018427387904) {Q : Ex → StW → Prop} : ∀ (r i : Nat), i + r = l.length → ∀ (a2 a3 : AV) (lo : List (Nat × AV)) (wr : List Nat),
    (indexOf x (l.drop i) i = -1 → ∀ a3 lo wr, Q (.exit 0) ⟨⟨[.vs (strs l) l.length cap, .str x, a2, a3, .int .i64 l.length, .int .i64 l.length], lo, [], []⟩, wr⟩) →
    (∀ a3 a5 lo wr, Q .ret ⟨⟨[.vs (strs l) l.length cap, .str x, .int .i64 (indexOf x (l.drop i) i), a3, .int .i64 l.length, a5], lo, [], []⟩, wr⟩) →
    W M (.loop b186_0) ⟨⟨[.vs (strs l) l.length cap, .str x, a2, a3, .int .i64 l.length, .int .i64 i], lo, [], []⟩, wr⟩ Q
  | 0, i, hi, a2, a3, lo, wr, h1, h2 => by
    obtain rfl : i = l.length := by omega
    refine W.loop ?_
    unfold b186_0
    repeat' first | apply W.seq | apply SQn | apply W.region | apply WO.nil | apply W.block | apply W.ret | apply W.exit | apply W.skip | apply SQr | apply SQe | apply BQn | apply BQr | apply BQe | (apply BQo; exact rfl) | apply LQe | apply LQr | (apply W.condT; exact rfl) | (apply W.condF; exact rfl) | (apply W.cond; exact rfl; all_goals intro _) | (apply WO.lss; exact rfl; exact rfl; all_goals first | (intro _; exfalso; omega) | intro _) | (apply WO.eql; exact rfl; exact rfl; all_goals first | (intro _; exfalso; omega) | intro _) | (apply WO.add; exact rfl; exact rfl; omega) | (apply WO.iav; exact rfl; exact rfl; omega) | (apply WO.ias; exact rfl; exact rfl; omega) | (apply WO.lda; exact rfl; exact fun _ => rfl; (first | omega | (simp only [List.length_set]; omega) | (simp; omega)); decide; exact rfl; case ia => infer_instance) | (apply WO.lsa; exact rfl; (first | exact rfl | assumption | exact at_new | (apply at_old; assumption) | (apply at_put; first | assumption | (simp only [put_length]; assumption))); exact fun _ => rfl; (first | omega | (simp only [List.length_set]; omega) | (simp; omega)); decide; exact rfl; case ia => infer_instance) | (apply WO.seql; exact rfl; exact rfl; all_goals first | (intro h; exact absurd h (by decide)) | (intro h; exact absurd rfl h) | (intro h; contradiction) | intro _) | (apply WO.hlv; exact rfl; exact rfl; exact rfl) | (apply WO.hpv; exact rfl; exact rfl; exact rfl) | (apply WO.hnv; exact rfl; exact rfl; exact rfl) | (apply WO.pl; exact rfl; exact rfl) | (apply WO.pp; exact rfl; exact rfl)
    exact h1 (by simp [indexOf]) _ _ _
  | r + 1, i, hi, a2, a3, lo, wr, h1, h2 => by
    have e := indexOf_drop (x := x) (l := l) (i := (i : Int).toNat) (by omega)
    rw [Int.toNat_natCast] at e
    refine W.loop ?_
    unfold b186_0
    repeat' first | apply W.seq | apply SQn | apply W.region | apply WO.nil | apply W.block | apply W.ret | apply W.exit | apply W.skip | apply SQr | apply SQe | apply BQn | apply BQr | apply BQe | (apply BQo; exact rfl) | apply LQe | apply LQr | (apply W.condT; exact rfl) | (apply W.condF; exact rfl) | (apply W.cond; exact rfl; all_goals intro _) | (apply WO.lss; exact rfl; exact rfl; all_goals first | (intro _; exfalso; omega) | intro _) | (apply WO.eql; exact rfl; exact rfl; all_goals first | (intro _; exfalso; omega) | intro _) | (apply WO.add; exact rfl; exact rfl; omega) | (apply WO.iav; exact rfl; exact rfl; omega) | (apply WO.ias; exact rfl; exact rfl; omega) | (apply WO.lda; exact rfl; exact fun _ => rfl; (first | omega | (simp only [List.length_set]; omega) | (simp; omega)); decide; exact rfl; case ia => infer_instance) | (apply WO.lsa; exact rfl; (first | exact rfl | assumption | exact at_new | (apply at_old; assumption) | (apply at_put; first | assumption | (simp only [put_length]; assumption))); exact fun _ => rfl; (first | omega | (simp only [List.length_set]; omega) | (simp; omega)); decide; exact rfl; case ia => infer_instance) | (apply WO.seql; exact rfl; exact rfl; all_goals first | (intro h; exact absurd h (by decide)) | (intro h; exact absurd rfl h) | (intro h; contradiction) | intro _) | (apply WO.hlv; exact rfl; exact rfl; exact rfl) | (apply WO.hpv; exact rfl; exact rfl; exact rfl) | (apply WO.hnv; exact rfl; exact rfl; exact rfl) | (apply WO.pl; exact rfl; exact rfl) | (apply WO.pp; exact rfl; exact rfl)
    · rename_i he
      rw [Int.toNat_natCast] at he
      rw [if_pos he] at e
      rw [e] at h2
      exact h2 _ _ _ _
    · rename_i he
      rw [Int.toNat_natCast] at he
      rw [if_neg he] at e
      rw [e] at h1 h2
      exact LQn (loop186 l x cap hl r (i + 1) (by omega) _ _ _ _ h1 h2)
theorem w186 (hft : M.FT = FT) (l : List Str) (x : Str) (cap : Option Nat) (hl : l.length < 4611686018427387904) : Run M 186 [.vs (strs l) l.length cap, .str x] [] ⟨.int .i64 (indexOf x l 0), [], []⟩ := by
  refine run_of_W (by rw [hft]; exact ft186) (by simp) ?_
  unfold b186
  simp only [List.map_cons, List.map_nil, List.getElem?_cons_zero, List.getElem?_cons_succ, List.getElem?_nil, Option.getD_some, Option.getD_none]
  repeat' first | apply W.seq | apply SQn | apply W.region | apply WO.nil | apply W.block | apply W.ret | apply W.exit | apply W.skip | apply SQr | apply SQe | apply BQn | apply BQr | apply BQe | (apply BQo; exact rfl) | apply LQe | apply LQr | (apply W.condT; exact rfl) | (apply W.condF; exact rfl) | (apply W.cond; exact rfl; all_goals intro _) | (apply WO.pl; exact rfl; exact rfl) | (apply WO.pp; exact rfl; exact rfl)
  refine loop186 l x cap hl l.length 0 (by omega) _ _ _ _ (fun h a2 lo wr => ?_) (fun a2 a5 lo wr => ?_)
  · repeat' first | apply W.seq | apply SQn | apply W.region | apply WO.nil | apply W.block | apply W.ret | apply W.exit | apply W.skip | apply SQr | apply SQe | apply BQn | apply BQr | apply BQe | (apply BQo; exact rfl) | apply LQe | apply LQr | (apply W.condT; exact rfl) | (apply W.condF; exact rfl) | (apply W.cond; exact rfl; all_goals intro _) | (apply WO.pl; exact rfl; exact rfl) | (apply WO.pp; exact rfl; exact rfl)
    exact ⟨.inr rfl, rfl, _, rfl, by rw [List.drop_zero] at h; rw [h]; rfl, rfl⟩
  · repeat' first | apply W.seq | apply SQn | apply W.region | apply WO.nil | apply W.block | apply W.ret | apply W.exit | apply W.skip | apply SQr | apply SQe | apply BQn | apply BQr | apply BQe | (apply BQo; exact rfl) | apply LQe | apply LQr | (apply W.condT; exact rfl) | (apply W.condF; exact rfl) | (apply W.cond; exact rfl; all_goals intro _) | (apply WO.pl; exact rfl; exact rfl) | (apply WO.pp; exact rfl; exact rfl)
    exact ⟨.inr rfl, rfl, _, rfl, rfl, rfl⟩
theorem w126 (hft : M.FT = FT) (c186 : ∀ l cap x h, l.length < 4611686018427387904 → M.ext 186 [.vs (strs l) l.length cap, .str x] h = some ⟨.int .i64 (indexOf x l 0), h, []⟩) (l : List Str) (x : Str) (cap : Option Nat) (hl : l.length < 4611686018427387904) : Run M 126 [.vs (strs l) l.length cap, .str x] [] ⟨.bool (decide (x ∈ l)), [], []⟩ := by
  have hi := fun h => c186 l cap x h hl
  refine run_of_W (by rw [hft]; exact ft126) (by simp) ?_
  unfold b126
  simp only [List.map_cons, List.map_nil, List.getElem?_cons_zero, List.getElem?_cons_succ, List.getElem?_nil, Option.getD_some, Option.getD_none]
  have hm := indexOf_mem (x := x) l 0
  repeat' first | apply W.seq | apply SQn | apply W.region | apply WO.nil | apply W.block | apply W.ret | apply W.exit | apply W.skip | apply SQr | apply SQe | apply BQn | apply BQr | apply BQe | (apply BQo; exact rfl) | apply LQe | apply LQr | (apply W.condT; exact rfl) | (apply W.condF; exact rfl) | (apply W.cond; exact rfl; all_goals intro _) | (apply WO.geq; exact rfl; exact rfl; all_goals first | (intro _; exfalso; omega) | intro _) | (apply WO.cll; exact rfl; exact rfl; first | exact hi _) | (apply WO.clb; exact rfl; exact rfl; exact rfl; all_goals first | (intro h; exact absurd h (by decide)) | intro _) | (apply WO.cll; exact rfl; exact rfl; exact rfl) | (apply WO.pl; exact rfl; exact rfl) | (apply WO.pp; exact rfl; exact rfl)
  all_goals refine ⟨.inr rfl, rfl, _, rfl, ?_, rfl⟩
  all_goals rw [← hm]
  · rename_i h; rw [decide_eq_true h]; rfl
  · rename_i h; rw [decide_eq_false (by omega)]; rfl

/-! field.when, within, first. -/
theorem w64 (hft : M.FT = FT) (t : Bool) (e : Int) : Run M 64 [.bool t, .int .i64 e] [] ⟨.int .i64 (if t then e else 0), [], []⟩ := by
  refine run_of_W (by rw [hft]; exact ft64) (by simp) ?_
  unfold b64
  simp only [List.map_cons, List.map_nil, List.getElem?_cons_zero, List.getElem?_cons_succ, List.getElem?_nil, Option.getD_some, Option.getD_none]
  cases t
  all_goals
    repeat' first | apply W.seq | apply SQn | apply W.region | apply WO.nil | apply W.block | apply W.ret | apply W.exit | apply W.skip | apply SQr | apply SQe | apply BQn | apply BQr | apply BQe | (apply BQo; exact rfl) | apply LQe | apply LQr | (apply W.condT; exact rfl) | (apply W.condF; exact rfl) | (apply W.cond; exact rfl; all_goals intro _) | (apply WO.pl; exact rfl; exact rfl) | (apply WO.pp; exact rfl; exact rfl)
  all_goals exact ⟨.inr rfl, rfl, _, rfl, rfl, rfl⟩
theorem w63 (hft : M.FT = FT) (h91 : ∀ t e h, M.ext 64 [.bool t, .int .i64 e] h = some ⟨.int .i64 (if t then e else 0), h, []⟩) (x lo hi : Int) : Run M 63 [.int .i64 x, .int .i64 lo, .int .i64 hi] [] ⟨.int .i64 (if outI x lo hi then 3 else 0), [], []⟩ := by
  have q1 := h91 true 3
  have q2 := h91 false 3
  refine run_of_W (by rw [hft]; exact ft63) (by simp) ?_
  unfold b63
  simp only [List.map_cons, List.map_nil, List.getElem?_cons_zero, List.getElem?_cons_succ, List.getElem?_nil, Option.getD_some, Option.getD_none]
  repeat' first | apply W.seq | apply SQn | apply W.region | apply WO.nil | apply W.block | apply W.ret | apply W.exit | apply W.skip | apply SQr | apply SQe | apply BQn | apply BQr | apply BQe | (apply BQo; exact rfl) | apply LQe | apply LQr | (apply W.condT; exact rfl) | (apply W.condF; exact rfl) | (apply W.cond; exact rfl; all_goals intro _) | (apply WO.gT; exact rfl) | (apply WO.gF; exact rfl) | (apply WO.sT; exact rfl) | (apply WO.sF; exact rfl) | (apply WO.sU; exact rfl) | (apply WO.lss; exact rfl; exact rfl; all_goals first | (intro _; exfalso; omega) | intro _) | (apply WO.gtr; exact rfl; exact rfl; all_goals first | (intro _; exfalso; omega) | intro _) | (apply WO.pkT; exact rfl; exact rfl) | (apply WO.pkF; exact rfl; exact rfl) | (apply WO.cll; exact rfl; exact rfl; first | exact q1 _ | exact q2 _) | (apply WO.clb; exact rfl; exact rfl; exact rfl; all_goals first | (intro h; exact absurd h (by decide)) | intro _) | (apply WO.cll; exact rfl; exact rfl; exact rfl) | (apply WO.pl; exact rfl; exact rfl) | (apply WO.pp; exact rfl; exact rfl)
  all_goals exact ⟨.inr rfl, rfl, _, rfl, congrArg (AV.int .i64) (by simp_all [outI]), rfl⟩

theorem loop61 (l : List Int) (hl : l.length < 4611686018427387904) {Q : Ex → StW → Prop} : ∀ (r i : Nat) (a2 : AV) (lo : List (Nat × AV)) (wr : List Nat), i + r = l.length →
    (firstNZ (l.drop i) = 0 → ∀ a2 lo wr, Q (.exit 0) ⟨⟨[.vs (ints l) l.length cap, .int .i64 0, a2, .vs (ints l) l.length cap, .int .i64 l.length, .int .i64 l.length], lo, [], []⟩, wr⟩) →
    (∀ a2 a5 lo wr, Q .ret ⟨⟨[.vs (ints l) l.length cap, .int .i64 (firstNZ (l.drop i)), a2, .vs (ints l) l.length cap, .int .i64 l.length, a5], lo, [], []⟩, wr⟩) →
    W M (.loop b61_0) ⟨⟨[.vs (ints l) l.length cap, .int .i64 0, a2, .vs (ints l) l.length cap, .int .i64 l.length, .int .i64 i], lo, [], []⟩, wr⟩ Q
  | 0, i, a2, lo, wr, hi, h1, h2 => by
    obtain rfl : i = l.length := by omega
    refine W.loop ?_
    unfold b61_0
    repeat' first | apply W.seq | apply SQn | apply W.region | apply WO.nil | apply W.block | apply W.ret | apply W.exit | apply W.skip | apply SQr | apply SQe | apply BQn | apply BQr | apply BQe | (apply BQo; exact rfl) | apply LQe | apply LQr | (apply W.condT; exact rfl) | (apply W.condF; exact rfl) | (apply W.cond; exact rfl; all_goals intro _) | (apply WO.lss; exact rfl; exact rfl; all_goals first | (intro _; exfalso; omega) | intro _) | (apply WO.neq; exact rfl; exact rfl; all_goals first | (intro _; exfalso; omega) | intro _) | (apply WO.add; exact rfl; exact rfl; omega) | (apply WO.iav; exact rfl; exact rfl; omega) | (apply WO.ias; exact rfl; exact rfl; omega) | (apply WO.lda; exact rfl; exact fun _ => rfl; (first | omega | (simp only [List.length_set]; omega) | (simp; omega)); decide; exact rfl; case ia => infer_instance) | (apply WO.lsa; exact rfl; (first | exact rfl | assumption | exact at_new | (apply at_old; assumption) | (apply at_put; first | assumption | (simp only [put_length]; assumption))); exact fun _ => rfl; (first | omega | (simp only [List.length_set]; omega) | (simp; omega)); decide; exact rfl; case ia => infer_instance) | (apply WO.sneq; exact rfl; exact rfl; all_goals first | (intro h; exact absurd h (by decide)) | (intro h; exact absurd rfl h) | (intro h; contradiction) | intro _) | (apply WO.hlv; exact rfl; exact rfl; exact rfl) | (apply WO.hpv; exact rfl; exact rfl; exact rfl) | (apply WO.hnv; exact rfl; exact rfl; exact rfl) | (apply WO.pl; exact rfl; exact rfl) | (apply WO.pp; exact rfl; exact rfl)
    exact h1 (by simp [firstNZ]) _ _ _
  | r + 1, i, a2, lo, wr, hi, h1, h2 => by
    have e := firstNZ_drop (l := l) (i := (i : Int).toNat) (by omega)
    rw [Int.toNat_natCast] at e
    refine W.loop ?_
    unfold b61_0
    repeat' first | apply W.seq | apply SQn | apply W.region | apply WO.nil | apply W.block | apply W.ret | apply W.exit | apply W.skip | apply SQr | apply SQe | apply BQn | apply BQr | apply BQe | (apply BQo; exact rfl) | apply LQe | apply LQr | (apply W.condT; exact rfl) | (apply W.condF; exact rfl) | (apply W.cond; exact rfl; all_goals intro _) | (apply WO.lss; exact rfl; exact rfl; all_goals first | (intro _; exfalso; omega) | intro _) | (apply WO.neq; exact rfl; exact rfl; all_goals first | (intro _; exfalso; omega) | intro _) | (apply WO.add; exact rfl; exact rfl; omega) | (apply WO.iav; exact rfl; exact rfl; omega) | (apply WO.ias; exact rfl; exact rfl; omega) | (apply WO.lda; exact rfl; exact fun _ => rfl; (first | omega | (simp only [List.length_set]; omega) | (simp; omega)); decide; exact rfl; case ia => infer_instance) | (apply WO.lsa; exact rfl; (first | exact rfl | assumption | exact at_new | (apply at_old; assumption) | (apply at_put; first | assumption | (simp only [put_length]; assumption))); exact fun _ => rfl; (first | omega | (simp only [List.length_set]; omega) | (simp; omega)); decide; exact rfl; case ia => infer_instance) | (apply WO.sneq; exact rfl; exact rfl; all_goals first | (intro h; exact absurd h (by decide)) | (intro h; exact absurd rfl h) | (intro h; contradiction) | intro _) | (apply WO.hlv; exact rfl; exact rfl; exact rfl) | (apply WO.hpv; exact rfl; exact rfl; exact rfl) | (apply WO.hnv; exact rfl; exact rfl; exact rfl) | (apply WO.pl; exact rfl; exact rfl) | (apply WO.pp; exact rfl; exact rfl)
    · rename_i he
      rw [Int.toNat_natCast] at he
      rw [if_neg he] at e
      rw [e] at h2
      exact h2 _ _ _ _
    · rename_i he
      rw [Int.toNat_natCast] at he
      rw [if_pos he] at e
      rw [e] at h1 h2
      exact LQn (loop61 l hl r (i + 1) _ _ _ (by omega) h1 h2)
theorem w61 (hft : M.FT = FT) (l : List Int) (hl : l.length < 4611686018427387904) : Run M 61 [.vs (ints l) l.length cap] [] ⟨.int .i64 (firstNZ l), [], []⟩ := by
  refine run_of_W (by rw [hft]; exact ft61) (by simp) ?_
  unfold b61
  simp only [List.map_cons, List.map_nil, List.getElem?_cons_zero, List.getElem?_cons_succ, List.getElem?_nil, Option.getD_some, Option.getD_none]
  repeat' first | apply W.seq | apply SQn | apply W.region | apply WO.nil | apply W.block | apply W.ret | apply W.exit | apply W.skip | apply SQr | apply SQe | apply BQn | apply BQr | apply BQe | (apply BQo; exact rfl) | apply LQe | apply LQr | (apply W.condT; exact rfl) | (apply W.condF; exact rfl) | (apply W.cond; exact rfl; all_goals intro _) | (apply WO.pl; exact rfl; exact rfl) | (apply WO.pp; exact rfl; exact rfl)
  refine loop61 l hl l.length 0 _ _ _ (by omega) (fun h a2 lo wr => ?_) (fun a2 a5 lo wr => ?_)
  · repeat' first | apply W.seq | apply SQn | apply W.region | apply WO.nil | apply W.block | apply W.ret | apply W.exit | apply W.skip | apply SQr | apply SQe | apply BQn | apply BQr | apply BQe | (apply BQo; exact rfl) | apply LQe | apply LQr | (apply W.condT; exact rfl) | (apply W.condF; exact rfl) | (apply W.cond; exact rfl; all_goals intro _) | (apply WO.pl; exact rfl; exact rfl) | (apply WO.pp; exact rfl; exact rfl)
    exact ⟨.inr rfl, rfl, _, rfl, by rw [List.drop_zero] at h; rw [h]; rfl, rfl⟩
  · repeat' first | apply W.seq | apply SQn | apply W.region | apply WO.nil | apply W.block | apply W.ret | apply W.exit | apply W.skip | apply SQr | apply SQe | apply BQn | apply BQr | apply BQe | (apply BQo; exact rfl) | apply LQe | apply LQr | (apply W.condT; exact rfl) | (apply W.condF; exact rfl) | (apply W.cond; exact rfl; all_goals intro _) | (apply WO.pl; exact rfl; exact rfl) | (apply WO.pp; exact rfl; exact rfl)
    exact ⟨.inr rfl, rfl, _, rfl, rfl, rfl⟩

end Go.Ab.Ch6


/-
  Own work: chapter 6: names of a list, one by one.
-/
namespace Go.Ab.Ch6
variable {M : Mach} {cap : Option Nat}

/-! The reference's names. -/
theorem loop68 (s : Str) (hl : s.length < 1000000) {Q : Ex → StW → Prop} : ∀ (r i : Nat) (a3 a4 : AV) (lo : List (Nat × AV)), i + r = s.length →
    (nameB (s.drop i) i = true → ∀ a3 a4 lo, Q (.exit 0) ⟨⟨[.str s, .bool false, .int .i64 s.length, a3, a4], lo, [], []⟩, []⟩) →
    (nameB (s.drop i) i = false → ∀ a2 a3 a4 lo, Q .ret ⟨⟨[.str s, .bool false, a2, a3, a4], lo, [], []⟩, []⟩) →
    W M (.loop b68_0) ⟨⟨[.str s, .bool false, .int .i64 i, a3, a4], lo, [], []⟩, []⟩ Q
  | 0, i, a3, a4, lo, hi, h1, h2 => by
    obtain rfl : i = s.length := by omega
    refine W.loop ?_
    unfold b68_0
    repeat' first | apply W.seq | apply SQn | apply W.region | apply WO.nil | apply W.block | apply W.ret | apply W.exit | apply W.skip | apply SQr | apply SQe | apply BQn | apply BQr | apply BQe | (apply BQo; exact rfl) | apply LQe | apply LQr | (apply W.condT; exact rfl) | (apply W.condF; exact rfl) | (apply W.cond; exact rfl; all_goals intro _) | (apply WO.gT; exact rfl) | (apply WO.gF; exact rfl) | (apply WO.sT; exact rfl) | (apply WO.sF; exact rfl) | (apply WO.sU; exact rfl) | (apply WO.lss; exact rfl; exact rfl; all_goals first | (intro _; exfalso; omega) | intro _) | (apply WO.leq; exact rfl; exact rfl; all_goals first | (intro _; exfalso; omega) | intro _) | (apply WO.geq; exact rfl; exact rfl; all_goals first | (intro _; exfalso; omega) | intro _) | (apply WO.eql; exact rfl; exact rfl; all_goals first | (intro _; exfalso; omega) | intro _) | (apply WO.pkT; exact rfl; exact rfl) | (apply WO.pkF; exact rfl; exact rfl) | (apply WO.add; exact rfl; exact rfl; omega) | (apply WO.cat; exact rfl; exact rfl; first | omega | (simp only [List.length_append, List.length_cons, List.length_nil]; omega) | (simp; omega)) | (apply WO.idx; exact rfl; exact rfl; omega) | (apply WO.seql; exact rfl; exact rfl; all_goals first | (intro h; exact absurd h (by decide)) | (intro h; exact absurd rfl h) | (intro h; contradiction) | intro _) | (apply WO.pl; exact rfl; exact rfl) | (apply WO.pp; exact rfl; exact rfl)
    exact h1 (by simp [nameB]) _ _ _
  | r + 1, i, a3, a4, lo, hi, h1, h2 => by
    have e := nameB_drop (s := s) (i := i) (by omega)
    have ei : ((i : Int)).toNat = i := by omega
    have hc := (s[i]!).toNat_lt
    have go : ∀ a3 a4 lo, okAt i (s[i]!).toNat = true → LQ M b68_0 Q .normal ⟨⟨[.str s, .bool false, .int .i64 ((i : Int) + 1), a3, a4], lo, [], []⟩, []⟩ := fun a3 a4 lo h => by
      rw [e, h, Bool.true_and] at h1 h2
      exact LQn (loop68 s hl r (i + 1) _ _ _ (by omega) h1 h2)
    have stop : ∀ a3 a4 lo, okAt i (s[i]!).toNat = false → Q .ret ⟨⟨[.str s, .bool false, .int .i64 i, a3, a4], lo, [], []⟩, []⟩ := fun a3 a4 lo h => h2 (by rw [e, h, Bool.false_and]) _ _ _ _
    have hv : (St.mk [.str s] [] [] []).opd (.p 0) = some (.str s) := rfl
    refine W.loop ?_
    unfold b68_0
    rw [← ei] at go stop
    repeat' first | apply W.seq | apply SQn | apply W.region | apply WO.nil | apply W.block | apply W.ret | apply W.exit | apply W.skip | apply SQr | apply SQe | apply BQn | apply BQr | apply BQe | (apply BQo; exact rfl) | apply LQe | apply LQr | (apply W.condT; exact rfl) | (apply W.condF; exact rfl) | (apply W.cond; exact rfl; all_goals intro _) | (apply WO.gT; exact rfl) | (apply WO.gF; exact rfl) | (apply WO.sT; exact rfl) | (apply WO.sF; exact rfl) | (apply WO.sU; exact rfl) | (apply WO.lss; exact rfl; exact rfl; all_goals first | (intro _; exfalso; omega) | intro _) | (apply WO.leq; exact rfl; exact rfl; all_goals first | (intro _; exfalso; omega) | intro _) | (apply WO.geq; exact rfl; exact rfl; all_goals first | (intro _; exfalso; omega) | intro _) | (apply WO.eql; exact rfl; exact rfl; all_goals first | (intro _; exfalso; omega) | intro _) | (apply WO.pkT; exact rfl; exact rfl) | (apply WO.pkF; exact rfl; exact rfl) | (apply WO.add; exact rfl; exact rfl; omega) | (apply WO.cat; exact rfl; exact rfl; first | omega | (simp only [List.length_append, List.length_cons, List.length_nil]; omega) | (simp; omega)) | (apply WO.idx; exact rfl; exact rfl; omega) | (apply WO.seql; exact rfl; exact rfl; all_goals first | (intro h; exact absurd h (by decide)) | (intro h; exact absurd rfl h) | (intro h; contradiction) | intro _) | (apply WO.pl; exact rfl; exact rfl) | (apply WO.pp; exact rfl; exact rfl)
    all_goals first
      | exact go _ _ _ (okAt_iff.2 (by omega))
      | exact stop _ _ _ (okAt_no (by omega))
theorem w68 (hft : M.FT = FT) (s : Str) (hl : s.length < 1000000) : Run M 68 [.str s] [] ⟨.bool (isName s), [], []⟩ := by
  refine run_of_W (by rw [hft]; exact ft68) (by simp) ?_
  unfold b68
  simp only [List.map_cons, List.map_nil, List.getElem?_cons_zero, List.getElem?_cons_succ, List.getElem?_nil, Option.getD_some, Option.getD_none]
  by_cases hb : s.length < 1 ∨ 24 < s.length
  · repeat' first | apply W.seq | apply SQn | apply W.region | apply WO.nil | apply W.block | apply W.ret | apply W.exit | apply W.skip | apply SQr | apply SQe | apply BQn | apply BQr | apply BQe | (apply BQo; exact rfl) | apply LQe | apply LQr | (apply W.condT; exact rfl) | (apply W.condF; exact rfl) | (apply W.cond; exact rfl; all_goals intro _) | (apply WO.gT; exact rfl) | (apply WO.gF; exact rfl) | (apply WO.sT; exact rfl) | (apply WO.sF; exact rfl) | (apply WO.sU; exact rfl) | (apply WO.lss; exact rfl; exact rfl; all_goals first | (intro _; exfalso; omega) | intro _) | (apply WO.gtr; exact rfl; exact rfl; all_goals first | (intro _; exfalso; omega) | intro _) | (apply WO.pkT; exact rfl; exact rfl) | (apply WO.pkF; exact rfl; exact rfl) | (apply WO.pl; exact rfl; exact rfl) | (apply WO.pp; exact rfl; exact rfl)
    all_goals exact ⟨.inr rfl, rfl, _, rfl, congrArg AV.bool (by simp [isName]; omega), rfl⟩
  · repeat' first | apply W.seq | apply SQn | apply W.region | apply WO.nil | apply W.block | apply W.ret | apply W.exit | apply W.skip | apply SQr | apply SQe | apply BQn | apply BQr | apply BQe | (apply BQo; exact rfl) | apply LQe | apply LQr | (apply W.condT; exact rfl) | (apply W.condF; exact rfl) | (apply W.cond; exact rfl; all_goals intro _) | (apply WO.gT; exact rfl) | (apply WO.gF; exact rfl) | (apply WO.sT; exact rfl) | (apply WO.sF; exact rfl) | (apply WO.sU; exact rfl) | (apply WO.lss; exact rfl; exact rfl; all_goals first | (intro _; exfalso; omega) | intro _) | (apply WO.gtr; exact rfl; exact rfl; all_goals first | (intro _; exfalso; omega) | intro _) | (apply WO.pkT; exact rfl; exact rfl) | (apply WO.pkF; exact rfl; exact rfl) | (apply WO.pl; exact rfl; exact rfl) | (apply WO.pp; exact rfl; exact rfl)
    refine loop68 s hl s.length 0 _ _ _ (by omega) (fun h a3 a4 lo => ?_) (fun h a2 a3 a4 lo => ?_)
    · rw [List.drop_zero] at h
      repeat' first | apply W.seq | apply SQn | apply W.region | apply WO.nil | apply W.block | apply W.ret | apply W.exit | apply W.skip | apply SQr | apply SQe | apply BQn | apply BQr | apply BQe | (apply BQo; exact rfl) | apply LQe | apply LQr | (apply W.condT; exact rfl) | (apply W.condF; exact rfl) | (apply W.cond; exact rfl; all_goals intro _) | (apply WO.gT; exact rfl) | (apply WO.gF; exact rfl) | (apply WO.sT; exact rfl) | (apply WO.sF; exact rfl) | (apply WO.sU; exact rfl) | (apply WO.lss; exact rfl; exact rfl; all_goals first | (intro _; exfalso; omega) | intro _) | (apply WO.gtr; exact rfl; exact rfl; all_goals first | (intro _; exfalso; omega) | intro _) | (apply WO.pkT; exact rfl; exact rfl) | (apply WO.pkF; exact rfl; exact rfl) | (apply WO.pl; exact rfl; exact rfl) | (apply WO.pp; exact rfl; exact rfl)
      exact ⟨.inr rfl, rfl, _, rfl, congrArg AV.bool (by simp [isName, h]; omega), rfl⟩
    · rw [List.drop_zero] at h
      repeat' first | apply W.seq | apply SQn | apply W.region | apply WO.nil | apply W.block | apply W.ret | apply W.exit | apply W.skip | apply SQr | apply SQe | apply BQn | apply BQr | apply BQe | (apply BQo; exact rfl) | apply LQe | apply LQr | (apply W.condT; exact rfl) | (apply W.condF; exact rfl) | (apply W.cond; exact rfl; all_goals intro _) | (apply WO.gT; exact rfl) | (apply WO.gF; exact rfl) | (apply WO.sT; exact rfl) | (apply WO.sF; exact rfl) | (apply WO.sU; exact rfl) | (apply WO.lss; exact rfl; exact rfl; all_goals first | (intro _; exfalso; omega) | intro _) | (apply WO.gtr; exact rfl; exact rfl; all_goals first | (intro _; exfalso; omega) | intro _) | (apply WO.pkT; exact rfl; exact rfl) | (apply WO.pkF; exact rfl; exact rfl) | (apply WO.pl; exact rfl; exact rfl) | (apply WO.pp; exact rfl; exact rfl)
      exact ⟨.inr rfl, rfl, _, rfl, congrArg AV.bool (by simp [isName, h]), rfl⟩

theorem take_drop_mem {l : List Str} {i k : Nat} {x : Str} (hi : i ≤ l.length) (h : k < i) : (x ∈ (l.take i).drop k) = (l[k]! = x ∨ x ∈ (l.take i).drop (k + 1)) := by
  have hk : k < (l.take i).length := by rw [List.length_take]; omega
  rw [List.drop_eq_getElem_cons hk, List.mem_cons, List.getElem_take, getElem!_pos l k (by omega)]
  exact propext ⟨fun h => h.imp Eq.symm id, fun h => h.imp Eq.symm id⟩
theorem loop73 (l : List Str) (hl : l.length < 1000000) (i : Nat) (hi : i < l.length) {Q : Ex → StW → Prop} : ∀ (r k : Nat) (lo : List (Nat × AV)) (wr : List Nat), k + r = i →
    (l[i]! ∉ (l.take i).drop k → ∀ a3 lo wr, Q (.exit 0) ⟨⟨[.vs (strs l) l.length cap, .int .i64 i, .int .i64 0, a3], lo, [], []⟩, wr⟩) →
    (l[i]! ∈ (l.take i).drop k → ∀ a3 lo wr, Q .ret ⟨⟨[.vs (strs l) l.length cap, .int .i64 i, .int .i64 9, a3], lo, [], []⟩, wr⟩) →
    W M (.loop b73_0) ⟨⟨[.vs (strs l) l.length cap, .int .i64 i, .int .i64 0, .int .i64 k], lo, [], []⟩, wr⟩ Q
  | 0, k, lo, wr, hk, h1, h2 => by
    obtain rfl : k = i := by omega
    refine W.loop ?_
    unfold b73_0
    repeat' first | apply W.seq | apply SQn | apply W.region | apply WO.nil | apply W.block | apply W.ret | apply W.exit | apply W.skip | apply SQr | apply SQe | apply BQn | apply BQr | apply BQe | (apply BQo; exact rfl) | apply LQe | apply LQr | (apply W.drawro; exact rfl) | apply W.draw | apply WD.nil | (apply WD.gT; exact rfl) | (apply WD.gF; exact rfl) | (apply WD.sT; exact rfl) | (apply WD.sF; exact rfl) | (apply WD.sU; exact rfl) | (apply WD.pure1; exact rfl) | (apply WD.load1; exact rfl; exact rfl; exact rfl) | (apply W.condT; exact rfl) | (apply W.condF; exact rfl) | (apply W.cond; exact rfl; all_goals intro _) | (apply WO.lss; exact rfl; exact rfl; all_goals first | (intro _; exfalso; omega) | intro _) | (apply WO.eql; exact rfl; exact rfl; all_goals first | (intro _; exfalso; omega) | intro _) | (apply WO.add; exact rfl; exact rfl; omega) | (apply WO.iav; exact rfl; exact rfl; omega) | (apply WO.ias; exact rfl; exact rfl; omega) | (apply WO.lda; exact rfl; exact fun _ => rfl; (first | omega | (simp only [List.length_set]; omega) | (simp; omega)); decide; exact rfl; case ia => infer_instance) | (apply WO.lsa; exact rfl; (first | exact rfl | assumption | exact at_new | (apply at_old; assumption) | (apply at_put; first | assumption | (simp only [put_length]; assumption))); exact fun _ => rfl; (first | omega | (simp only [List.length_set]; omega) | (simp; omega)); decide; exact rfl; case ia => infer_instance) | (apply WO.seql; exact rfl; exact rfl; all_goals first | (intro h; exact absurd h (by decide)) | (intro h; exact absurd rfl h) | (intro h; contradiction) | intro _) | (apply WO.hlv; exact rfl; exact rfl; exact rfl) | (apply WO.hpv; exact rfl; exact rfl; exact rfl) | (apply WO.hnv; exact rfl; exact rfl; exact rfl) | (apply WO.pl; exact rfl; exact rfl) | (apply WO.pp; exact rfl; exact rfl)
    exact h1 (by rw [List.drop_eq_nil_of_le (by rw [List.length_take]; omega)]; simp) _ _ _
  | r + 1, k, lo, wr, hk, h1, h2 => by
    have e := take_drop_mem (l := l) (i := i) (k := k) (x := l[i]!) (by omega) (by omega)
    have ei : ((i : Int)).toNat = i := by omega
    have ek : ((k : Int)).toNat = k := by omega
    rw [e] at h1 h2
    refine W.loop ?_
    unfold b73_0
    by_cases he : l[k]! = l[i]!
    · repeat' first | apply W.seq | apply SQn | apply W.region | apply WO.nil | apply W.block | apply W.ret | apply W.exit | apply W.skip | apply SQr | apply SQe | apply BQn | apply BQr | apply BQe | (apply BQo; exact rfl) | apply LQe | apply LQr | (apply W.drawro; exact rfl) | apply W.draw | apply WD.nil | (apply WD.gT; exact rfl) | (apply WD.gF; exact rfl) | (apply WD.sT; exact rfl) | (apply WD.sF; exact rfl) | (apply WD.sU; exact rfl) | (apply WD.pure1; exact rfl) | (apply WD.load1; exact rfl; exact rfl; exact rfl) | (apply W.condT; exact rfl) | (apply W.condF; exact rfl) | (apply W.cond; exact rfl; all_goals intro _) | (apply WO.lss; exact rfl; exact rfl; all_goals first | (intro _; exfalso; omega) | intro _) | (apply WO.eql; exact rfl; exact rfl; all_goals first | (intro _; exfalso; omega) | intro _) | (apply WO.add; exact rfl; exact rfl; omega) | (apply WO.iav; exact rfl; exact rfl; omega) | (apply WO.ias; exact rfl; exact rfl; omega) | (apply WO.lda; exact rfl; exact fun _ => rfl; (first | omega | (simp only [List.length_set]; omega) | (simp; omega)); decide; exact rfl; case ia => infer_instance) | (apply WO.lsa; exact rfl; (first | exact rfl | assumption | exact at_new | (apply at_old; assumption) | (apply at_put; first | assumption | (simp only [put_length]; assumption))); exact fun _ => rfl; (first | omega | (simp only [List.length_set]; omega) | (simp; omega)); decide; exact rfl; case ia => infer_instance) | (apply WO.seql; exact rfl; exact rfl; all_goals first | (intro h; exact absurd h (by decide)) | (intro h; exact absurd rfl h) | (intro h; contradiction) | intro _) | (apply WO.hlv; exact rfl; exact rfl; exact rfl) | (apply WO.hpv; exact rfl; exact rfl; exact rfl) | (apply WO.hnv; exact rfl; exact rfl; exact rfl) | (apply WO.pl; exact rfl; exact rfl) | (apply WO.pp; exact rfl; exact rfl)
      exact h2 (.inl he) _ _ _
    · repeat' first | apply W.seq | apply SQn | apply W.region | apply WO.nil | apply W.block | apply W.ret | apply W.exit | apply W.skip | apply SQr | apply SQe | apply BQn | apply BQr | apply BQe | (apply BQo; exact rfl) | apply LQe | apply LQr | (apply W.drawro; exact rfl) | apply W.draw | apply WD.nil | (apply WD.gT; exact rfl) | (apply WD.gF; exact rfl) | (apply WD.sT; exact rfl) | (apply WD.sF; exact rfl) | (apply WD.sU; exact rfl) | (apply WD.pure1; exact rfl) | (apply WD.load1; exact rfl; exact rfl; exact rfl) | (apply W.condT; exact rfl) | (apply W.condF; exact rfl) | (apply W.cond; exact rfl; all_goals intro _) | (apply WO.lss; exact rfl; exact rfl; all_goals first | (intro _; exfalso; omega) | intro _) | (apply WO.eql; exact rfl; exact rfl; all_goals first | (intro _; exfalso; omega) | intro _) | (apply WO.add; exact rfl; exact rfl; omega) | (apply WO.iav; exact rfl; exact rfl; omega) | (apply WO.ias; exact rfl; exact rfl; omega) | (apply WO.lda; exact rfl; exact fun _ => rfl; (first | omega | (simp only [List.length_set]; omega) | (simp; omega)); decide; exact rfl; case ia => infer_instance) | (apply WO.lsa; exact rfl; (first | exact rfl | assumption | exact at_new | (apply at_old; assumption) | (apply at_put; first | assumption | (simp only [put_length]; assumption))); exact fun _ => rfl; (first | omega | (simp only [List.length_set]; omega) | (simp; omega)); decide; exact rfl; case ia => infer_instance) | (apply WO.seql; exact rfl; exact rfl; all_goals first | (intro h; exact absurd h (by decide)) | (intro h; exact absurd rfl h) | (intro h; contradiction) | intro _) | (apply WO.hlv; exact rfl; exact rfl; exact rfl) | (apply WO.hpv; exact rfl; exact rfl; exact rfl) | (apply WO.hnv; exact rfl; exact rfl; exact rfl) | (apply WO.pl; exact rfl; exact rfl) | (apply WO.pp; exact rfl; exact rfl)
      exact LQn (loop73 l hl i hi r (k + 1) _ _ (by omega) (fun h => h1 (fun h' => h'.elim he h)) (fun h => h2 (.inr h)))
theorem w73 (hft : M.FT = FT) (c68 : ∀ (s : Str) h, s.length < 1000000 → M.ext 68 [.str s] h = some ⟨.bool (isName s), h, []⟩) (l : List Str) (hl : l.length < 1000000) (hL : ∀ s ∈ l, s.length < 1000000) (i : Nat) (hi : i < l.length) :
    Run M 73 [.vs (strs l) l.length cap, .int .i64 i] [] ⟨.int .i64 (nameE l i), [], []⟩ := by
  have ei : ((i : Int)).toNat = i := by omega
  have q := fun h => c68 l[((i : Int)).toNat]! h (by rw [ei]; exact hL _ (by rw [getElem!_pos l i hi]; exact List.getElem_mem hi))
  refine run_of_W (by rw [hft]; exact ft73) (by simp) ?_
  unfold b73
  simp only [List.map_cons, List.map_nil, List.getElem?_cons_zero, List.getElem?_cons_succ, List.getElem?_nil, Option.getD_some, Option.getD_none]
  cases hn : isName l[((i : Int)).toNat]!
  · rw [hn] at q
    repeat' first | apply W.seq | apply SQn | apply W.region | apply WO.nil | apply W.block | apply W.ret | apply W.exit | apply W.skip | apply SQr | apply SQe | apply BQn | apply BQr | apply BQe | (apply BQo; exact rfl) | apply LQe | apply LQr | (apply W.condT; exact rfl) | (apply W.condF; exact rfl) | (apply W.cond; exact rfl; all_goals intro _) | (apply WO.cll; exact rfl; exact rfl; first | exact q _) | (apply WO.iav; exact rfl; exact rfl; omega) | (apply WO.ias; exact rfl; exact rfl; omega) | (apply WO.lda; exact rfl; exact fun _ => rfl; (first | omega | (simp only [List.length_set]; omega) | (simp; omega)); decide; exact rfl; case ia => infer_instance) | (apply WO.lsa; exact rfl; (first | exact rfl | assumption | exact at_new | (apply at_old; assumption) | (apply at_put; first | assumption | (simp only [put_length]; assumption))); exact fun _ => rfl; (first | omega | (simp only [List.length_set]; omega) | (simp; omega)); decide; exact rfl; case ia => infer_instance) | (apply WO.clb; exact rfl; exact rfl; exact rfl; all_goals first | (intro h; exact absurd h (by decide)) | intro _) | (apply WO.cll; exact rfl; exact rfl; exact rfl) | (apply WO.hlv; exact rfl; exact rfl; exact rfl) | (apply WO.hpv; exact rfl; exact rfl; exact rfl) | (apply WO.hnv; exact rfl; exact rfl; exact rfl) | (apply WO.pl; exact rfl; exact rfl) | (apply WO.pp; exact rfl; exact rfl)
    exact ⟨.inr rfl, rfl, _, rfl, by rw [ei] at hn; rw [nameE, if_pos hn]; rfl, rfl⟩
  · rw [hn] at q
    repeat' first | apply W.seq | apply SQn | apply W.region | apply WO.nil | apply W.block | apply W.ret | apply W.exit | apply W.skip | apply SQr | apply SQe | apply BQn | apply BQr | apply BQe | (apply BQo; exact rfl) | apply LQe | apply LQr | (apply W.condT; exact rfl) | (apply W.condF; exact rfl) | (apply W.cond; exact rfl; all_goals intro _) | (apply WO.cll; exact rfl; exact rfl; first | exact q _) | (apply WO.iav; exact rfl; exact rfl; omega) | (apply WO.ias; exact rfl; exact rfl; omega) | (apply WO.lda; exact rfl; exact fun _ => rfl; (first | omega | (simp only [List.length_set]; omega) | (simp; omega)); decide; exact rfl; case ia => infer_instance) | (apply WO.lsa; exact rfl; (first | exact rfl | assumption | exact at_new | (apply at_old; assumption) | (apply at_put; first | assumption | (simp only [put_length]; assumption))); exact fun _ => rfl; (first | omega | (simp only [List.length_set]; omega) | (simp; omega)); decide; exact rfl; case ia => infer_instance) | (apply WO.clb; exact rfl; exact rfl; exact rfl; all_goals first | (intro h; exact absurd h (by decide)) | intro _) | (apply WO.cll; exact rfl; exact rfl; exact rfl) | (apply WO.hlv; exact rfl; exact rfl; exact rfl) | (apply WO.hpv; exact rfl; exact rfl; exact rfl) | (apply WO.hnv; exact rfl; exact rfl; exact rfl) | (apply WO.pl; exact rfl; exact rfl) | (apply WO.pp; exact rfl; exact rfl)
    rw [ei] at hn
    refine loop73 l hl i hi i 0 _ _ (by omega) (fun h a3 lo wr => ?_) (fun h a3 lo wr => ?_)
    · rw [List.drop_zero] at h
      repeat' first | apply W.seq | apply SQn | apply W.region | apply WO.nil | apply W.block | apply W.ret | apply W.exit | apply W.skip | apply SQr | apply SQe | apply BQn | apply BQr | apply BQe | (apply BQo; exact rfl) | apply LQe | apply LQr | (apply W.condT; exact rfl) | (apply W.condF; exact rfl) | (apply W.cond; exact rfl; all_goals intro _) | (apply WO.iav; exact rfl; exact rfl; omega) | (apply WO.ias; exact rfl; exact rfl; omega) | (apply WO.lda; exact rfl; exact fun _ => rfl; (first | omega | (simp only [List.length_set]; omega) | (simp; omega)); decide; exact rfl; case ia => infer_instance) | (apply WO.lsa; exact rfl; (first | exact rfl | assumption | exact at_new | (apply at_old; assumption) | (apply at_put; first | assumption | (simp only [put_length]; assumption))); exact fun _ => rfl; (first | omega | (simp only [List.length_set]; omega) | (simp; omega)); decide; exact rfl; case ia => infer_instance) | (apply WO.clb; exact rfl; exact rfl; exact rfl; all_goals first | (intro h; exact absurd h (by decide)) | intro _) | (apply WO.cll; exact rfl; exact rfl; exact rfl) | (apply WO.hlv; exact rfl; exact rfl; exact rfl) | (apply WO.hpv; exact rfl; exact rfl; exact rfl) | (apply WO.hnv; exact rfl; exact rfl; exact rfl) | (apply WO.pl; exact rfl; exact rfl) | (apply WO.pp; exact rfl; exact rfl)
      exact ⟨.inr rfl, rfl, _, rfl, by rw [nameE, if_neg (by rw [hn]; decide), if_neg h]; rfl, rfl⟩
    · rw [List.drop_zero] at h
      repeat' first | apply W.seq | apply SQn | apply W.region | apply WO.nil | apply W.block | apply W.ret | apply W.exit | apply W.skip | apply SQr | apply SQe | apply BQn | apply BQr | apply BQe | (apply BQo; exact rfl) | apply LQe | apply LQr | (apply W.condT; exact rfl) | (apply W.condF; exact rfl) | (apply W.cond; exact rfl; all_goals intro _) | (apply WO.iav; exact rfl; exact rfl; omega) | (apply WO.ias; exact rfl; exact rfl; omega) | (apply WO.lda; exact rfl; exact fun _ => rfl; (first | omega | (simp only [List.length_set]; omega) | (simp; omega)); decide; exact rfl; case ia => infer_instance) | (apply WO.lsa; exact rfl; (first | exact rfl | assumption | exact at_new | (apply at_old; assumption) | (apply at_put; first | assumption | (simp only [put_length]; assumption))); exact fun _ => rfl; (first | omega | (simp only [List.length_set]; omega) | (simp; omega)); decide; exact rfl; case ia => infer_instance) | (apply WO.clb; exact rfl; exact rfl; exact rfl; all_goals first | (intro h; exact absurd h (by decide)) | intro _) | (apply WO.cll; exact rfl; exact rfl; exact rfl) | (apply WO.hlv; exact rfl; exact rfl; exact rfl) | (apply WO.hpv; exact rfl; exact rfl; exact rfl) | (apply WO.hnv; exact rfl; exact rfl; exact rfl) | (apply WO.pl; exact rfl; exact rfl) | (apply WO.pp; exact rfl; exact rfl)
      exact ⟨.inr rfl, rfl, _, rfl, by rw [nameE, if_neg (by rw [hn]; decide), if_pos h]; rfl, rfl⟩

theorem loop65 (c73 : ∀ (l : List Str) cap (i : Nat) h, l.length < 1000000 → (∀ s ∈ l, s.length < 1000000) → i < l.length → M.ext 73 [.vs (strs l) l.length cap, .int .i64 i] h = some ⟨.int .i64 (nameE l i), h, []⟩) (l : List Str) (hl : l.length < 1000000) (hL : ∀ s ∈ l, s.length < 1000000) {Q : Ex → StW → Prop} : ∀ (r i : Nat) (a3 : AV) (lo : List (Nat × AV)) (wr : List Nat), i + r = l.length →
    (namesE l r i = 0 → ∀ a2 a3 lo wr, Q (.exit 0) ⟨⟨[.vs (strs l) l.length cap, .int .i64 0, a2, a3], lo, [], []⟩, wr⟩) →
    (namesE l r i ≠ 0 → ∀ a2 a3 lo wr, Q .ret ⟨⟨[.vs (strs l) l.length cap, .int .i64 (namesE l r i), a2, a3], lo, [], []⟩, wr⟩) →
    W M (.loop b65_0) ⟨⟨[.vs (strs l) l.length cap, .int .i64 0, .int .i64 i, a3], lo, [], []⟩, wr⟩ Q
  | 0, i, a3, lo, wr, hi, h1, h2 => by
    obtain rfl : i = l.length := by omega
    refine W.loop ?_
    unfold b65_0
    repeat' first | apply W.seq | apply SQn | apply W.region | apply WO.nil | apply W.block | apply W.ret | apply W.exit | apply W.skip | apply SQr | apply SQe | apply BQn | apply BQr | apply BQe | (apply BQo; exact rfl) | apply LQe | apply LQr | (apply W.condT; exact rfl) | (apply W.condF; exact rfl) | (apply W.cond; exact rfl; all_goals intro _) | (apply WO.lss; exact rfl; exact rfl; all_goals first | (intro _; exfalso; omega) | intro _) | (apply WO.neq; exact rfl; exact rfl; all_goals first | (intro _; exfalso; omega) | intro _) | (apply WO.add; exact rfl; exact rfl; omega) | (apply WO.sneq; exact rfl; exact rfl; all_goals first | (intro h; exact absurd h (by decide)) | (intro h; exact absurd rfl h) | (intro h; contradiction) | intro _) | (apply WO.clb; exact rfl; exact rfl; exact rfl; all_goals first | (intro h; exact absurd h (by decide)) | intro _) | (apply WO.cll; exact rfl; exact rfl; exact rfl) | (apply WO.pl; exact rfl; exact rfl) | (apply WO.pp; exact rfl; exact rfl)
    exact h1 rfl _ _ _ _
  | r + 1, i, a3, lo, wr, hi, h1, h2 => by
    have q := fun h => c73 l cap i h hl hL (by omega)
    have e : namesE l (r + 1) i = if nameE l i = 0 then namesE l r (i + 1) else nameE l i := rfl
    refine W.loop ?_
    unfold b65_0
    by_cases hn : nameE l i = 0
    · rw [hn] at q
      rw [if_pos hn] at e
      rw [e] at h1 h2
      repeat' first | apply W.seq | apply SQn | apply W.region | apply WO.nil | apply W.block | apply W.ret | apply W.exit | apply W.skip | apply SQr | apply SQe | apply BQn | apply BQr | apply BQe | (apply BQo; exact rfl) | apply LQe | apply LQr | (apply W.condT; exact rfl) | (apply W.condF; exact rfl) | (apply W.cond; exact rfl; all_goals intro _) | (apply WO.lss; exact rfl; exact rfl; all_goals first | (intro _; exfalso; omega) | intro _) | (apply WO.neq; exact rfl; exact rfl; all_goals first | (intro _; exfalso; omega) | intro _) | (apply WO.add; exact rfl; exact rfl; omega) | (apply WO.cll; exact rfl; exact rfl; first | exact q _) | (apply WO.sneq; exact rfl; exact rfl; all_goals first | (intro h; exact absurd h (by decide)) | (intro h; exact absurd rfl h) | (intro h; contradiction) | intro _) | (apply WO.clb; exact rfl; exact rfl; exact rfl; all_goals first | (intro h; exact absurd h (by decide)) | intro _) | (apply WO.cll; exact rfl; exact rfl; exact rfl) | (apply WO.pl; exact rfl; exact rfl) | (apply WO.pp; exact rfl; exact rfl)
      exact LQn (loop65 c73 l hl hL r (i + 1) _ _ _ (by omega) h1 h2)
    · rw [if_neg hn] at e
      rw [e] at h1 h2
      generalize nameE l i = z at *
      repeat' first | apply W.seq | apply SQn | apply W.region | apply WO.nil | apply W.block | apply W.ret | apply W.exit | apply W.skip | apply SQr | apply SQe | apply BQn | apply BQr | apply BQe | (apply BQo; exact rfl) | apply LQe | apply LQr | (apply W.condT; exact rfl) | (apply W.condF; exact rfl) | (apply W.cond; exact rfl; all_goals intro _) | (apply WO.lss; exact rfl; exact rfl; all_goals first | (intro _; exfalso; omega) | intro _) | (apply WO.neq; exact rfl; exact rfl; all_goals first | (intro _; exfalso; omega) | intro _) | (apply WO.add; exact rfl; exact rfl; omega) | (apply WO.cll; exact rfl; exact rfl; first | exact q _) | (apply WO.sneq; exact rfl; exact rfl; all_goals first | (intro h; exact absurd h (by decide)) | (intro h; exact absurd rfl h) | (intro h; contradiction) | intro _) | (apply WO.clb; exact rfl; exact rfl; exact rfl; all_goals first | (intro h; exact absurd h (by decide)) | intro _) | (apply WO.cll; exact rfl; exact rfl; exact rfl) | (apply WO.pl; exact rfl; exact rfl) | (apply WO.pp; exact rfl; exact rfl)
      exact h2 hn _ _ _ _
theorem w65 (hft : M.FT = FT) (c73 : ∀ (l : List Str) cap (i : Nat) h, l.length < 1000000 → (∀ s ∈ l, s.length < 1000000) → i < l.length → M.ext 73 [.vs (strs l) l.length cap, .int .i64 i] h = some ⟨.int .i64 (nameE l i), h, []⟩) (l : List Str) (hl : l.length < 1000000) (hL : ∀ s ∈ l, s.length < 1000000) :
    Run M 65 [.vs (strs l) l.length cap] [] ⟨.int .i64 (athE l), [], []⟩ := by
  refine run_of_W (by rw [hft]; exact ft65) (by simp) ?_
  unfold b65
  simp only [List.map_cons, List.map_nil, List.getElem?_cons_zero, List.getElem?_cons_succ, List.getElem?_nil, Option.getD_some, Option.getD_none]
  by_cases h0 : l.length = 0
  · repeat' first | apply W.seq | apply SQn | apply W.region | apply WO.nil | apply W.block | apply W.ret | apply W.exit | apply W.skip | apply SQr | apply SQe | apply BQn | apply BQr | apply BQe | (apply BQo; exact rfl) | apply LQe | apply LQr | (apply W.condT; exact rfl) | (apply W.condF; exact rfl) | (apply W.cond; exact rfl; all_goals intro _) | (apply WO.gtr; exact rfl; exact rfl; all_goals first | (intro _; exfalso; omega) | intro _) | (apply WO.eql; exact rfl; exact rfl; all_goals first | (intro _; exfalso; omega) | intro _) | (apply WO.seql; exact rfl; exact rfl; all_goals first | (intro h; exact absurd h (by decide)) | (intro h; exact absurd rfl h) | (intro h; contradiction) | intro _) | (apply WO.pl; exact rfl; exact rfl) | (apply WO.pp; exact rfl; exact rfl)
    exact ⟨.inr rfl, rfl, _, rfl, by rw [athE, if_pos h0]; rfl, rfl⟩
  by_cases h32 : 32 < l.length
  · repeat' first | apply W.seq | apply SQn | apply W.region | apply WO.nil | apply W.block | apply W.ret | apply W.exit | apply W.skip | apply SQr | apply SQe | apply BQn | apply BQr | apply BQe | (apply BQo; exact rfl) | apply LQe | apply LQr | (apply W.condT; exact rfl) | (apply W.condF; exact rfl) | (apply W.cond; exact rfl; all_goals intro _) | (apply WO.gtr; exact rfl; exact rfl; all_goals first | (intro _; exfalso; omega) | intro _) | (apply WO.eql; exact rfl; exact rfl; all_goals first | (intro _; exfalso; omega) | intro _) | (apply WO.seql; exact rfl; exact rfl; all_goals first | (intro h; exact absurd h (by decide)) | (intro h; exact absurd rfl h) | (intro h; contradiction) | intro _) | (apply WO.pl; exact rfl; exact rfl) | (apply WO.pp; exact rfl; exact rfl)
    exact ⟨.inr rfl, rfl, _, rfl, by rw [athE, if_neg h0, if_pos h32]; rfl, rfl⟩
  · repeat' first | apply W.seq | apply SQn | apply W.region | apply WO.nil | apply W.block | apply W.ret | apply W.exit | apply W.skip | apply SQr | apply SQe | apply BQn | apply BQr | apply BQe | (apply BQo; exact rfl) | apply LQe | apply LQr | (apply W.condT; exact rfl) | (apply W.condF; exact rfl) | (apply W.cond; exact rfl; all_goals intro _) | (apply WO.gtr; exact rfl; exact rfl; all_goals first | (intro _; exfalso; omega) | intro _) | (apply WO.eql; exact rfl; exact rfl; all_goals first | (intro _; exfalso; omega) | intro _) | (apply WO.seql; exact rfl; exact rfl; all_goals first | (intro h; exact absurd h (by decide)) | (intro h; exact absurd rfl h) | (intro h; contradiction) | intro _) | (apply WO.pl; exact rfl; exact rfl) | (apply WO.pp; exact rfl; exact rfl)
    refine loop65 c73 l hl hL l.length 0 _ _ _ (by omega) (fun h a2 a3 lo wr => ?_) (fun h a2 a3 lo wr => ?_)
    · repeat' first | apply W.seq | apply SQn | apply W.region | apply WO.nil | apply W.block | apply W.ret | apply W.exit | apply W.skip | apply SQr | apply SQe | apply BQn | apply BQr | apply BQe | (apply BQo; exact rfl) | apply LQe | apply LQr | (apply W.condT; exact rfl) | (apply W.condF; exact rfl) | (apply W.cond; exact rfl; all_goals intro _) | (apply WO.gtr; exact rfl; exact rfl; all_goals first | (intro _; exfalso; omega) | intro _) | (apply WO.eql; exact rfl; exact rfl; all_goals first | (intro _; exfalso; omega) | intro _) | (apply WO.seql; exact rfl; exact rfl; all_goals first | (intro h; exact absurd h (by decide)) | (intro h; exact absurd rfl h) | (intro h; contradiction) | intro _) | (apply WO.pl; exact rfl; exact rfl) | (apply WO.pp; exact rfl; exact rfl)
      exact ⟨.inr rfl, rfl, _, rfl, by rw [athE, if_neg h0, if_neg h32, h]; rfl, rfl⟩
    · repeat' first | apply W.seq | apply SQn | apply W.region | apply WO.nil | apply W.block | apply W.ret | apply W.exit | apply W.skip | apply SQr | apply SQe | apply BQn | apply BQr | apply BQe | (apply BQo; exact rfl) | apply LQe | apply LQr | (apply W.condT; exact rfl) | (apply W.condF; exact rfl) | (apply W.cond; exact rfl; all_goals intro _) | (apply WO.gtr; exact rfl; exact rfl; all_goals first | (intro _; exfalso; omega) | intro _) | (apply WO.eql; exact rfl; exact rfl; all_goals first | (intro _; exfalso; omega) | intro _) | (apply WO.seql; exact rfl; exact rfl; all_goals first | (intro h; exact absurd h (by decide)) | (intro h; exact absurd rfl h) | (intro h; contradiction) | intro _) | (apply WO.pl; exact rfl; exact rfl) | (apply WO.pp; exact rfl; exact rfl)
      exact ⟨.inr rfl, rfl, _, rfl, by rw [athE, if_neg h0, if_neg h32]; rfl, rfl⟩
end Go.Ab.Ch6


/-
  Own work: chapter 6: names of a list by the program; contests.
-/
namespace Go.Ab.Ch6
variable {M : Mach} {cap : Option Nat}

structure CF (M : Mach) : Prop where
  ft : M.FT = FT
  c64 : ∀ t e h, M.ext 64 [.bool t, .int .i64 e] h = some ⟨.int .i64 (if t then e else 0), h, []⟩
  c63 : ∀ x lo hi h, M.ext 63 [.int .i64 x, .int .i64 lo, .int .i64 hi] h = some ⟨.int .i64 (if outI x lo hi then 3 else 0), h, []⟩
  c61 : ∀ v l h, intsAt h v = some l → l.length < 4611686018427387904 → M.ext 61 [v] h = some ⟨.int .i64 (firstNZ l), h, []⟩
theorem CF.q2 (C : CF M) (H : Heap) (a b : Int) : M.ext 61 [.sl H.length 0 2 1 (some 2)] (H ++ [some (.cells [.int .i64 a, .int .i64 b] 30)]) = some ⟨.int .i64 (firstNZ [a, b]), H ++ [some (.cells [.int .i64 a, .int .i64 b] 30)], []⟩ := by
  have e : Heap.at (H ++ [some (.cells [.int .i64 a, .int .i64 b] 30)]) H.length = some (.cells (ints [a, b]) 30) := at_new
  exact C.c61 _ [a, b] _ (ints_at e rfl) (by simp)
theorem CF.q3 (C : CF M) (H : Heap) (a b c : Int) : M.ext 61 [.sl H.length 0 3 1 (some 3)] (H ++ [some (.cells [.int .i64 a, .int .i64 b, .int .i64 c] 30)]) = some ⟨.int .i64 (firstNZ [a, b, c]), H ++ [some (.cells [.int .i64 a, .int .i64 b, .int .i64 c] 30)], []⟩ := by
  have e : Heap.at (H ++ [some (.cells [.int .i64 a, .int .i64 b, .int .i64 c] 30)]) H.length = some (.cells (ints [a, b, c]) 30) := at_new
  exact C.c61 _ [a, b, c] _ (ints_at e rfl) (by simp)

theorem nameE_first (l : List Str) (i : Nat) : firstNZ [if (!isName l[i]!) = true then 8 else 0, if decide (l[i]! ∈ l.take i) = true then 9 else 0] = nameE l i := by
  unfold nameE
  cases isName l[i]!
  · simp [firstNZ]
  · by_cases h : l[i]! ∈ l.take i
    · rw [decide_eq_true h, if_pos h]; simp [firstNZ]
    · rw [decide_eq_false h, if_neg h]; simp [firstNZ]
theorem w76 (C : CF M) (c67 : ∀ (s : Str) h, s.length < 1000000 → M.ext 67 [.str s] h = some ⟨.bool (isName s), h, []⟩) (c126 : ∀ (l : List Str) x cap h, l.length < 1000000 → M.ext 126 [.vs (strs l) l.length cap, .str x] h = some ⟨.bool (decide (x ∈ l)), h, []⟩) (l : List Str) (hl : l.length < 1000000) (hL : ∀ s ∈ l, s.length < 1000000) (i : Nat) (hi : i < l.length) :
    Run M 76 [.vs (strs l) l.length cap, .int .i64 i] [] ⟨.int .i64 (nameE l i), [], []⟩ := by
  have ei : ((i : Int)).toNat = i := by omega
  have q67 := fun h => c67 l[((i : Int)).toNat]! h (by rw [ei]; exact hL _ (by rw [getElem!_pos l i hi]; exact List.getElem_mem hi))
  have q126 := fun h => c126 (l.take ((i : Int)).toNat) l[((i : Int)).toNat]! cap h (by rw [List.length_take]; omega)
  have q61 := fun a b => C.q2 [] a b
  have hf := nameE_first l ((i : Int)).toNat
  rw [show nameE l i = nameE l ((i : Int)).toNat from by rw [ei]]
  rw [← hf]
  refine run_of_W (by rw [C.ft]; exact ft76) (by simp) ?_
  unfold b76
  simp only [List.map_cons, List.map_nil, List.getElem?_cons_zero, List.getElem?_cons_succ, List.getElem?_nil, Option.getD_some, Option.getD_none]
  repeat' first | (apply WO.slv (f := fun x => [AV.str x]); exact rfl; exact rfl; exact fun _ => rfl; omega) | apply W.seq | apply SQn | apply W.region | apply WO.nil | apply W.block | apply W.ret | apply W.exit | apply W.skip | apply SQr | apply SQe | apply BQn | apply BQr | apply BQe | (apply BQo; exact rfl) | apply LQe | apply LQr | (apply W.drawro; exact rfl) | apply W.draw | apply WD.nil | (apply WD.gT; exact rfl) | (apply WD.gF; exact rfl) | (apply WD.sT; exact rfl) | (apply WD.sF; exact rfl) | (apply WD.sU; exact rfl) | (apply WD.pure1; exact rfl) | (apply WD.load1; exact rfl; exact rfl; exact rfl) | (apply WD.new1; exact rfl) | (apply WD.clb; exact rfl; exact rfl; exact rfl; exact rfl; all_goals first | (intro h; exact absurd h (by decide)) | intro _) | (apply WD.cl0; exact rfl; exact rfl; exact rfl; exact rfl) | (apply WD.cl1; exact rfl; exact rfl; exact rfl; exact rfl) | (apply W.condT; exact rfl) | (apply W.condF; exact rfl) | (apply W.cond; exact rfl; all_goals intro _) | (apply WO.cll; exact rfl; exact rfl; first | exact q67 _ | exact q126 _ | exact C.c64 _ _ _ | exact q61 _ _) | (apply WD.cl0; exact rfl; exact rfl; exact rfl; first | exact q67 _ | exact q126 _ | exact C.c64 _ _ _ | exact q61 _ _) | (apply WO.iav; exact rfl; exact rfl; omega) | (apply WO.ias; exact rfl; exact rfl; omega) | (apply WO.lda; exact rfl; exact fun _ => rfl; (first | omega | (simp only [List.length_set]; omega) | (simp; omega)); decide; exact rfl; case ia => infer_instance) | (apply WO.lsa; exact rfl; (first | exact rfl | assumption | exact at_new | (apply at_old; assumption) | (apply at_put; first | assumption | (simp only [put_length]; assumption))); exact fun _ => rfl; (first | omega | (simp only [List.length_set]; omega) | (simp; omega)); decide; exact rfl; case ia => infer_instance) | (apply WO.clb; exact rfl; exact rfl; exact rfl; all_goals first | (intro h; exact absurd h (by decide)) | intro _) | (apply WO.cll; exact rfl; exact rfl; exact rfl) | (apply WO.hlv; exact rfl; exact rfl; exact rfl) | (apply WO.hpv; exact rfl; exact rfl; exact rfl) | (apply WO.hnv; exact rfl; exact rfl; exact rfl) | (apply WO.pl; exact rfl; exact rfl) | (apply WO.pp; exact rfl; exact rfl)
  all_goals exact ⟨.inr rfl, rfl, _, rfl, rfl, rfl⟩

theorem loop62 (c76 : ∀ (l : List Str) cap (i : Nat) h, l.length < 1000000 → (∀ s ∈ l, s.length < 1000000) → i < l.length → M.ext 76 [.vs (strs l) l.length cap, .int .i64 i] h = some ⟨.int .i64 (nameE l i), h, []⟩) (l : List Str) (hl : l.length < 1000000) (hL : ∀ s ∈ l, s.length < 1000000) (hp : Heap) {Q : Ex → StW → Prop} : ∀ (r i : Nat) (a2 a3 a4 : AV) (lo : List (Nat × AV)) (wr : List Nat), i + r = l.length →
    (namesE l r i = 0 → ∀ a2 a3 a4 lo wr, Q (.exit 0) ⟨⟨[.vs (strs l) l.length cap, .int .i64 0, a2, a3, a4, .int .i64 l.length, .int .i64 l.length], lo, hp, []⟩, wr⟩) →
    (namesE l r i ≠ 0 → ∀ a2 a3 a4 a6 lo wr, Q .ret ⟨⟨[.vs (strs l) l.length cap, .int .i64 (namesE l r i), a2, a3, a4, .int .i64 l.length, a6], lo, hp, []⟩, wr⟩) →
    W M (.loop b62_0) ⟨⟨[.vs (strs l) l.length cap, .int .i64 0, a2, a3, a4, .int .i64 l.length, .int .i64 i], lo, hp, []⟩, wr⟩ Q
  | 0, i, a2, a3, a4, lo, wr, hi, h1, h2 => by
    obtain rfl : i = l.length := by omega
    refine W.loop ?_
    unfold b62_0
    repeat' first | apply W.seq | apply SQn | apply W.region | apply WO.nil | apply W.block | apply W.ret | apply W.exit | apply W.skip | apply SQr | apply SQe | apply BQn | apply BQr | apply BQe | (apply BQo; exact rfl) | apply LQe | apply LQr | (apply W.condT; exact rfl) | (apply W.condF; exact rfl) | (apply W.cond; exact rfl; all_goals intro _) | (apply WO.lss; exact rfl; exact rfl; all_goals first | (intro _; exfalso; omega) | intro _) | (apply WO.neq; exact rfl; exact rfl; all_goals first | (intro _; exfalso; omega) | intro _) | (apply WO.add; exact rfl; exact rfl; omega) | (apply WO.sneq; exact rfl; exact rfl; all_goals first | (intro h; exact absurd h (by decide)) | (intro h; exact absurd rfl h) | (intro h; contradiction) | intro _) | (apply WO.clb; exact rfl; exact rfl; exact rfl; all_goals first | (intro h; exact absurd h (by decide)) | intro _) | (apply WO.cll; exact rfl; exact rfl; exact rfl) | (apply WO.pl; exact rfl; exact rfl) | (apply WO.pp; exact rfl; exact rfl)
    exact h1 rfl _ _ _ _ _
  | r + 1, i, a2, a3, a4, lo, wr, hi, h1, h2 => by
    have q := fun h => c76 l cap i h hl hL (by omega)
    have e : namesE l (r + 1) i = if nameE l i = 0 then namesE l r (i + 1) else nameE l i := rfl
    refine W.loop ?_
    unfold b62_0
    by_cases hn : nameE l i = 0
    · rw [hn] at q
      rw [if_pos hn] at e
      rw [e] at h1 h2
      repeat' first | apply W.seq | apply SQn | apply W.region | apply WO.nil | apply W.block | apply W.ret | apply W.exit | apply W.skip | apply SQr | apply SQe | apply BQn | apply BQr | apply BQe | (apply BQo; exact rfl) | apply LQe | apply LQr | (apply W.condT; exact rfl) | (apply W.condF; exact rfl) | (apply W.cond; exact rfl; all_goals intro _) | (apply WO.lss; exact rfl; exact rfl; all_goals first | (intro _; exfalso; omega) | intro _) | (apply WO.neq; exact rfl; exact rfl; all_goals first | (intro _; exfalso; omega) | intro _) | (apply WO.add; exact rfl; exact rfl; omega) | (apply WO.cll; exact rfl; exact rfl; first | exact q _) | (apply WO.sneq; exact rfl; exact rfl; all_goals first | (intro h; exact absurd h (by decide)) | (intro h; exact absurd rfl h) | (intro h; contradiction) | intro _) | (apply WO.clb; exact rfl; exact rfl; exact rfl; all_goals first | (intro h; exact absurd h (by decide)) | intro _) | (apply WO.cll; exact rfl; exact rfl; exact rfl) | (apply WO.pl; exact rfl; exact rfl) | (apply WO.pp; exact rfl; exact rfl)
      exact LQn (loop62 c76 l hl hL hp r (i + 1) _ _ _ _ _ (by omega) h1 h2)
    · rw [if_neg hn] at e
      rw [e] at h1 h2
      generalize nameE l i = z at *
      repeat' first | apply W.seq | apply SQn | apply W.region | apply WO.nil | apply W.block | apply W.ret | apply W.exit | apply W.skip | apply SQr | apply SQe | apply BQn | apply BQr | apply BQe | (apply BQo; exact rfl) | apply LQe | apply LQr | (apply W.condT; exact rfl) | (apply W.condF; exact rfl) | (apply W.cond; exact rfl; all_goals intro _) | (apply WO.lss; exact rfl; exact rfl; all_goals first | (intro _; exfalso; omega) | intro _) | (apply WO.neq; exact rfl; exact rfl; all_goals first | (intro _; exfalso; omega) | intro _) | (apply WO.add; exact rfl; exact rfl; omega) | (apply WO.cll; exact rfl; exact rfl; first | exact q _) | (apply WO.sneq; exact rfl; exact rfl; all_goals first | (intro h; exact absurd h (by decide)) | (intro h; exact absurd rfl h) | (intro h; contradiction) | intro _) | (apply WO.clb; exact rfl; exact rfl; exact rfl; all_goals first | (intro h; exact absurd h (by decide)) | intro _) | (apply WO.cll; exact rfl; exact rfl; exact rfl) | (apply WO.pl; exact rfl; exact rfl) | (apply WO.pp; exact rfl; exact rfl)
      exact h2 hn _ _ _ _ _ _
theorem w62 (C : CF M) (c76 : ∀ (l : List Str) cap (i : Nat) h, l.length < 1000000 → (∀ s ∈ l, s.length < 1000000) → i < l.length → M.ext 76 [.vs (strs l) l.length cap, .int .i64 i] h = some ⟨.int .i64 (nameE l i), h, []⟩) (l : List Str) (hl : l.length < 1000000) (hL : ∀ s ∈ l, s.length < 1000000) :
    Run M 62 [.vs (strs l) l.length cap] [] ⟨.int .i64 (athE l), [], []⟩ := by
  have lit : ∀ a b c : Int, firstNZ [a, b] = c → M.ext 61 [.sl ([] : Heap).length 0 2 1 (some 2)] ([] ++ [some (.cells [.int .i64 a, .int .i64 b] 30)]) = some ⟨.int .i64 c, [] ++ [some (.cells [.int .i64 a, .int .i64 b] 30)], []⟩ := fun a b c h => by rw [C.q2 [] a b, h]
  have q64 := C.c64
  refine run_of_W (by rw [C.ft]; exact ft62) (by simp) ?_
  unfold b62
  simp only [List.map_cons, List.map_nil, List.getElem?_cons_zero, List.getElem?_cons_succ, List.getElem?_nil, Option.getD_some, Option.getD_none]
  by_cases h0 : l.length = 0
  · repeat' first | apply W.seq | apply SQn | apply W.region | apply WO.nil | apply W.block | apply W.ret | apply W.exit | apply W.skip | apply SQr | apply SQe | apply BQn | apply BQr | apply BQe | (apply BQo; exact rfl) | apply LQe | apply LQr | (apply W.condT; exact rfl) | (apply W.condF; exact rfl) | (apply W.cond; exact rfl; all_goals intro _) | (apply WO.gtr; exact rfl; exact rfl; all_goals first | (intro _; exfalso; omega) | intro _) | (apply WO.eql; exact rfl; exact rfl; all_goals first | (intro _; exfalso; omega) | intro _) | (apply WO.neq; exact rfl; exact rfl; all_goals first | (intro _; exfalso; omega) | intro _) | (apply WO.cll; exact rfl; exact rfl; first | exact q64 true 12 _ | exact q64 false 5 _ | exact lit 12 0 12 rfl) | (apply WO.seql; exact rfl; exact rfl; all_goals first | (intro h; exact absurd h (by decide)) | (intro h; exact absurd rfl h) | (intro h; contradiction) | intro _) | (apply WO.sneq; exact rfl; exact rfl; all_goals first | (intro h; exact absurd h (by decide)) | (intro h; exact absurd rfl h) | (intro h; contradiction) | intro _) | (apply WO.clb; exact rfl; exact rfl; exact rfl; all_goals first | (intro h; exact absurd h (by decide)) | intro _) | (apply WO.cll; exact rfl; exact rfl; exact rfl) | (apply WO.hlv; exact rfl; exact rfl; exact rfl) | (apply WO.hpv; exact rfl; exact rfl; exact rfl) | (apply WO.hnv; exact rfl; exact rfl; exact rfl) | (apply WO.pl; exact rfl; exact rfl) | (apply WO.pp; exact rfl; exact rfl)
    all_goals exact ⟨.inr rfl, rfl, _, rfl, by rw [athE, if_pos h0]; rfl, rfl⟩
  by_cases h32 : 32 < l.length
  · repeat' first | apply W.seq | apply SQn | apply W.region | apply WO.nil | apply W.block | apply W.ret | apply W.exit | apply W.skip | apply SQr | apply SQe | apply BQn | apply BQr | apply BQe | (apply BQo; exact rfl) | apply LQe | apply LQr | (apply W.condT; exact rfl) | (apply W.condF; exact rfl) | (apply W.cond; exact rfl; all_goals intro _) | (apply WO.gtr; exact rfl; exact rfl; all_goals first | (intro _; exfalso; omega) | intro _) | (apply WO.eql; exact rfl; exact rfl; all_goals first | (intro _; exfalso; omega) | intro _) | (apply WO.neq; exact rfl; exact rfl; all_goals first | (intro _; exfalso; omega) | intro _) | (apply WO.cll; exact rfl; exact rfl; first | exact q64 false 12 _ | exact q64 true 5 _ | exact lit 0 5 5 rfl) | (apply WO.seql; exact rfl; exact rfl; all_goals first | (intro h; exact absurd h (by decide)) | (intro h; exact absurd rfl h) | (intro h; contradiction) | intro _) | (apply WO.sneq; exact rfl; exact rfl; all_goals first | (intro h; exact absurd h (by decide)) | (intro h; exact absurd rfl h) | (intro h; contradiction) | intro _) | (apply WO.clb; exact rfl; exact rfl; exact rfl; all_goals first | (intro h; exact absurd h (by decide)) | intro _) | (apply WO.cll; exact rfl; exact rfl; exact rfl) | (apply WO.hlv; exact rfl; exact rfl; exact rfl) | (apply WO.hpv; exact rfl; exact rfl; exact rfl) | (apply WO.hnv; exact rfl; exact rfl; exact rfl) | (apply WO.pl; exact rfl; exact rfl) | (apply WO.pp; exact rfl; exact rfl)
    all_goals exact ⟨.inr rfl, rfl, _, rfl, by rw [athE, if_neg h0, if_pos h32]; rfl, rfl⟩
  · repeat' first | apply W.seq | apply SQn | apply W.region | apply WO.nil | apply W.block | apply W.ret | apply W.exit | apply W.skip | apply SQr | apply SQe | apply BQn | apply BQr | apply BQe | (apply BQo; exact rfl) | apply LQe | apply LQr | (apply W.condT; exact rfl) | (apply W.condF; exact rfl) | (apply W.cond; exact rfl; all_goals intro _) | (apply WO.gtr; exact rfl; exact rfl; all_goals first | (intro _; exfalso; omega) | intro _) | (apply WO.eql; exact rfl; exact rfl; all_goals first | (intro _; exfalso; omega) | intro _) | (apply WO.neq; exact rfl; exact rfl; all_goals first | (intro _; exfalso; omega) | intro _) | (apply WO.cll; exact rfl; exact rfl; first | exact q64 false 12 _ | exact q64 false 5 _ | exact lit 0 0 0 rfl) | (apply WO.seql; exact rfl; exact rfl; all_goals first | (intro h; exact absurd h (by decide)) | (intro h; exact absurd rfl h) | (intro h; contradiction) | intro _) | (apply WO.sneq; exact rfl; exact rfl; all_goals first | (intro h; exact absurd h (by decide)) | (intro h; exact absurd rfl h) | (intro h; contradiction) | intro _) | (apply WO.clb; exact rfl; exact rfl; exact rfl; all_goals first | (intro h; exact absurd h (by decide)) | intro _) | (apply WO.cll; exact rfl; exact rfl; exact rfl) | (apply WO.hlv; exact rfl; exact rfl; exact rfl) | (apply WO.hpv; exact rfl; exact rfl; exact rfl) | (apply WO.hnv; exact rfl; exact rfl; exact rfl) | (apply WO.pl; exact rfl; exact rfl) | (apply WO.pp; exact rfl; exact rfl)
    all_goals first | (exfalso; omega) | skip
    refine loop62 c76 l hl hL _ l.length 0 _ _ _ _ _ (by omega) (fun h a2 a3 a4 lo wr => ?_) (fun h a2 a3 a4 a6 lo wr => ?_)
    · repeat' first | apply W.seq | apply SQn | apply W.region | apply WO.nil | apply W.block | apply W.ret | apply W.exit | apply W.skip | apply SQr | apply SQe | apply BQn | apply BQr | apply BQe | (apply BQo; exact rfl) | apply LQe | apply LQr | (apply W.condT; exact rfl) | (apply W.condF; exact rfl) | (apply W.cond; exact rfl; all_goals intro _) | (apply WO.gtr; exact rfl; exact rfl; all_goals first | (intro _; exfalso; omega) | intro _) | (apply WO.eql; exact rfl; exact rfl; all_goals first | (intro _; exfalso; omega) | intro _) | (apply WO.neq; exact rfl; exact rfl; all_goals first | (intro _; exfalso; omega) | intro _) | (apply WO.seql; exact rfl; exact rfl; all_goals first | (intro h; exact absurd h (by decide)) | (intro h; exact absurd rfl h) | (intro h; contradiction) | intro _) | (apply WO.sneq; exact rfl; exact rfl; all_goals first | (intro h; exact absurd h (by decide)) | (intro h; exact absurd rfl h) | (intro h; contradiction) | intro _) | (apply WO.clb; exact rfl; exact rfl; exact rfl; all_goals first | (intro h; exact absurd h (by decide)) | intro _) | (apply WO.cll; exact rfl; exact rfl; exact rfl) | (apply WO.hlv; exact rfl; exact rfl; exact rfl) | (apply WO.hpv; exact rfl; exact rfl; exact rfl) | (apply WO.hnv; exact rfl; exact rfl; exact rfl) | (apply WO.pl; exact rfl; exact rfl) | (apply WO.pp; exact rfl; exact rfl)
      exact ⟨.inr rfl, rfl, _, rfl, by rw [athE, if_neg h0, if_neg h32, h]; rfl, rfl⟩
    · repeat' first | apply W.seq | apply SQn | apply W.region | apply WO.nil | apply W.block | apply W.ret | apply W.exit | apply W.skip | apply SQr | apply SQe | apply BQn | apply BQr | apply BQe | (apply BQo; exact rfl) | apply LQe | apply LQr | (apply W.condT; exact rfl) | (apply W.condF; exact rfl) | (apply W.cond; exact rfl; all_goals intro _) | (apply WO.gtr; exact rfl; exact rfl; all_goals first | (intro _; exfalso; omega) | intro _) | (apply WO.eql; exact rfl; exact rfl; all_goals first | (intro _; exfalso; omega) | intro _) | (apply WO.neq; exact rfl; exact rfl; all_goals first | (intro _; exfalso; omega) | intro _) | (apply WO.seql; exact rfl; exact rfl; all_goals first | (intro h; exact absurd h (by decide)) | (intro h; exact absurd rfl h) | (intro h; contradiction) | intro _) | (apply WO.sneq; exact rfl; exact rfl; all_goals first | (intro h; exact absurd h (by decide)) | (intro h; exact absurd rfl h) | (intro h; contradiction) | intro _) | (apply WO.clb; exact rfl; exact rfl; exact rfl; all_goals first | (intro h; exact absurd h (by decide)) | intro _) | (apply WO.cll; exact rfl; exact rfl; exact rfl) | (apply WO.hlv; exact rfl; exact rfl; exact rfl) | (apply WO.hpv; exact rfl; exact rfl; exact rfl) | (apply WO.hnv; exact rfl; exact rfl; exact rfl) | (apply WO.pl; exact rfl; exact rfl) | (apply WO.pp; exact rfl; exact rfl)
      exact ⟨.inr rfl, rfl, _, rfl, by rw [athE, if_neg h0, if_neg h32]; rfl, rfl⟩

theorem all_dropN {l : List Str} {i : Nat} (h : i < l.length) : (l.drop i).all (fun s => decide (s.length ≤ 40)) = (decide (l[i]!.length ≤ 40) && (l.drop (i + 1)).all (fun s => decide (s.length ≤ 40))) := by
  rw [List.drop_eq_getElem_cons h, getElem!_pos l i h, List.all_cons]
theorem loop9 (l : List Str) (hl : l.length < 1000000) {Q : Ex → StW → Prop} : ∀ (r i : Nat) (lo : List (Nat × AV)) (wr : List Nat), i + r = l.length →
    ((l.drop i).all (fun s => decide (s.length ≤ 40)) = true → ∀ a2 lo wr, Q (.exit 0) ⟨⟨[.vs (strs l) l.length cap, .bool false, a2], lo, [], []⟩, wr⟩) →
    ((l.drop i).all (fun s => decide (s.length ≤ 40)) = false → ∀ a2 lo wr, Q .ret ⟨⟨[.vs (strs l) l.length cap, .bool false, a2], lo, [], []⟩, wr⟩) →
    W M (.loop b9_0) ⟨⟨[.vs (strs l) l.length cap, .bool false, .int .i64 i], lo, [], []⟩, wr⟩ Q
  | 0, i, lo, wr, hi, h1, h2 => by
    obtain rfl : i = l.length := by omega
    refine W.loop ?_
    unfold b9_0
    repeat' first | apply W.seq | apply SQn | apply W.region | apply WO.nil | apply W.block | apply W.ret | apply W.exit | apply W.skip | apply SQr | apply SQe | apply BQn | apply BQr | apply BQe | (apply BQo; exact rfl) | apply LQe | apply LQr | (apply W.condT; exact rfl) | (apply W.condF; exact rfl) | (apply W.cond; exact rfl; all_goals intro _) | (apply WO.lss; exact rfl; exact rfl; all_goals first | (intro _; exfalso; omega) | intro _) | (apply WO.gtr; exact rfl; exact rfl; all_goals first | (intro _; exfalso; omega) | intro _) | (apply WO.add; exact rfl; exact rfl; omega) | (apply WO.cat; exact rfl; exact rfl; first | omega | (simp only [List.length_append, List.length_cons, List.length_nil]; omega) | (simp; omega)) | (apply WO.iav; exact rfl; exact rfl; omega) | (apply WO.ias; exact rfl; exact rfl; omega) | (apply WO.lda; exact rfl; exact fun _ => rfl; (first | omega | (simp only [List.length_set]; omega) | (simp; omega)); decide; exact rfl; case ia => infer_instance) | (apply WO.lsa; exact rfl; (first | exact rfl | assumption | exact at_new | (apply at_old; assumption) | (apply at_put; first | assumption | (simp only [put_length]; assumption))); exact fun _ => rfl; (first | omega | (simp only [List.length_set]; omega) | (simp; omega)); decide; exact rfl; case ia => infer_instance) | (apply WO.hlv; exact rfl; exact rfl; exact rfl) | (apply WO.hpv; exact rfl; exact rfl; exact rfl) | (apply WO.hnv; exact rfl; exact rfl; exact rfl) | (apply WO.pl; exact rfl; exact rfl) | (apply WO.pp; exact rfl; exact rfl)
    exact h1 (by simp) _ _ _
  | r + 1, i, lo, wr, hi, h1, h2 => by
    have e := all_dropN (l := l) (i := i) (by omega)
    have ei : ((i : Int)).toNat = i := by omega
    refine W.loop ?_
    unfold b9_0
    repeat' first | apply W.seq | apply SQn | apply W.region | apply WO.nil | apply W.block | apply W.ret | apply W.exit | apply W.skip | apply SQr | apply SQe | apply BQn | apply BQr | apply BQe | (apply BQo; exact rfl) | apply LQe | apply LQr | (apply W.condT; exact rfl) | (apply W.condF; exact rfl) | (apply W.cond; exact rfl; all_goals intro _) | (apply WO.lss; exact rfl; exact rfl; all_goals first | (intro _; exfalso; omega) | intro _) | (apply WO.gtr; exact rfl; exact rfl; all_goals first | (intro _; exfalso; omega) | intro _) | (apply WO.add; exact rfl; exact rfl; omega) | (apply WO.cat; exact rfl; exact rfl; first | omega | (simp only [List.length_append, List.length_cons, List.length_nil]; omega) | (simp; omega)) | (apply WO.iav; exact rfl; exact rfl; omega) | (apply WO.ias; exact rfl; exact rfl; omega) | (apply WO.lda; exact rfl; exact fun _ => rfl; (first | omega | (simp only [List.length_set]; omega) | (simp; omega)); decide; exact rfl; case ia => infer_instance) | (apply WO.lsa; exact rfl; (first | exact rfl | assumption | exact at_new | (apply at_old; assumption) | (apply at_put; first | assumption | (simp only [put_length]; assumption))); exact fun _ => rfl; (first | omega | (simp only [List.length_set]; omega) | (simp; omega)); decide; exact rfl; case ia => infer_instance) | (apply WO.hlv; exact rfl; exact rfl; exact rfl) | (apply WO.hpv; exact rfl; exact rfl; exact rfl) | (apply WO.hnv; exact rfl; exact rfl; exact rfl) | (apply WO.pl; exact rfl; exact rfl) | (apply WO.pp; exact rfl; exact rfl)
    · rename_i h
      rw [ei] at h
      exact h2 (by rw [e, decide_eq_false (by omega), Bool.false_and]) _ _ _
    · rename_i h
      rw [ei] at h
      rw [e, decide_eq_true (by omega), Bool.true_and] at h1 h2
      exact LQn (loop9 l hl r (i + 1) _ _ (by omega) h1 h2)
theorem w9 (hft : M.FT = FT) (l : List Str) : Run M 9 [.vs (strs l) l.length cap] [] ⟨.bool (shortN l), [], []⟩ := by
  refine run_of_W (by rw [hft]; exact ft9) (by simp) ?_
  unfold b9
  simp only [List.map_cons, List.map_nil, List.getElem?_cons_zero, List.getElem?_cons_succ, List.getElem?_nil, Option.getD_some, Option.getD_none]
  by_cases h0 : 35 < l.length
  · repeat' first | apply W.seq | apply SQn | apply W.region | apply WO.nil | apply W.block | apply W.ret | apply W.exit | apply W.skip | apply SQr | apply SQe | apply BQn | apply BQr | apply BQe | (apply BQo; exact rfl) | apply LQe | apply LQr | (apply W.condT; exact rfl) | (apply W.condF; exact rfl) | (apply W.cond; exact rfl; all_goals intro _) | (apply WO.gtr; exact rfl; exact rfl; all_goals first | (intro _; exfalso; omega) | intro _) | (apply WO.pl; exact rfl; exact rfl) | (apply WO.pp; exact rfl; exact rfl)
    exact ⟨.inr rfl, rfl, _, rfl, by rw [shortN, decide_eq_false (by omega)]; rfl, rfl⟩
  · repeat' first | apply W.seq | apply SQn | apply W.region | apply WO.nil | apply W.block | apply W.ret | apply W.exit | apply W.skip | apply SQr | apply SQe | apply BQn | apply BQr | apply BQe | (apply BQo; exact rfl) | apply LQe | apply LQr | (apply W.condT; exact rfl) | (apply W.condF; exact rfl) | (apply W.cond; exact rfl; all_goals intro _) | (apply WO.gtr; exact rfl; exact rfl; all_goals first | (intro _; exfalso; omega) | intro _) | (apply WO.pl; exact rfl; exact rfl) | (apply WO.pp; exact rfl; exact rfl)
    refine loop9 l (by omega) l.length 0 _ _ (by omega) (fun h a2 lo wr => ?_) (fun h a2 lo wr => ?_)
    · rw [List.drop_zero] at h
      repeat' first | apply W.seq | apply SQn | apply W.region | apply WO.nil | apply W.block | apply W.ret | apply W.exit | apply W.skip | apply SQr | apply SQe | apply BQn | apply BQr | apply BQe | (apply BQo; exact rfl) | apply LQe | apply LQr | (apply W.condT; exact rfl) | (apply W.condF; exact rfl) | (apply W.cond; exact rfl; all_goals intro _) | (apply WO.gtr; exact rfl; exact rfl; all_goals first | (intro _; exfalso; omega) | intro _) | (apply WO.pl; exact rfl; exact rfl) | (apply WO.pp; exact rfl; exact rfl)
      exact ⟨.inr rfl, rfl, _, rfl, by rw [shortN, decide_eq_true (by omega), h]; rfl, rfl⟩
    · rw [List.drop_zero] at h
      repeat' first | apply W.seq | apply SQn | apply W.region | apply WO.nil | apply W.block | apply W.ret | apply W.exit | apply W.skip | apply SQr | apply SQe | apply BQn | apply BQr | apply BQe | (apply BQo; exact rfl) | apply LQe | apply LQr | (apply W.condT; exact rfl) | (apply W.condF; exact rfl) | (apply W.cond; exact rfl; all_goals intro _) | (apply WO.gtr; exact rfl; exact rfl; all_goals first | (intro _; exfalso; omega) | intro _) | (apply WO.pl; exact rfl; exact rfl) | (apply WO.pp; exact rfl; exact rfl)
      exact ⟨.inr rfl, rfl, _, rfl, by rw [shortN, h, Bool.and_false]; rfl, rfl⟩
end Go.Ab.Ch6


/-
  Own work: chapter 6: the errors of contests and of heights, by both.
-/
namespace Go.Ab.Ch6
variable {M : Mach} {cap : Option Nat}

theorem w12 (hft : M.FT = FT) (c65 : ∀ (l : List Str) cap h, l.length < 1000000 → (∀ s ∈ l, s.length < 1000000) → M.ext 65 [.vs (strs l) l.length cap] h = some ⟨.int .i64 (athE l), h, []⟩) (l : List Str) (t f m : Int) (hl : l.length < 1000000) (hL : ∀ s ∈ l, s.length < 1000000) :
    Run M 12 [.agg [.vs (strs l) l.length cap, .int .i64 t, .int .i64 f, .int .i64 m]] [] ⟨.int .i64 (contestE l t f m), [], []⟩ := by
  have q := fun h => c65 l cap h hl hL
  refine run_of_W (by rw [hft]; exact ft12) (by simp) ?_
  unfold b12
  simp only [List.map_cons, List.map_nil, List.getElem?_cons_zero, List.getElem?_cons_succ, List.getElem?_nil, Option.getD_some, Option.getD_none]
  by_cases h0 : athE l = 0
  · rw [h0] at q
    repeat' first | apply W.seq | apply SQn | apply W.region | apply WO.nil | apply W.block | apply W.ret | apply W.exit | apply W.skip | apply SQr | apply SQe | apply BQn | apply BQr | apply BQe | (apply BQo; exact rfl) | apply LQe | apply LQr | (apply W.condT; exact rfl) | (apply W.condF; exact rfl) | (apply W.cond; exact rfl; all_goals intro _) | (apply WO.gT; exact rfl) | (apply WO.gF; exact rfl) | (apply WO.sT; exact rfl) | (apply WO.sF; exact rfl) | (apply WO.sU; exact rfl) | (apply WO.lss; exact rfl; exact rfl; all_goals first | (intro _; exfalso; omega) | intro _) | (apply WO.gtr; exact rfl; exact rfl; all_goals first | (intro _; exfalso; omega) | intro _) | (apply WO.eql; exact rfl; exact rfl; all_goals first | (intro _; exfalso; omega) | intro _) | (apply WO.neq; exact rfl; exact rfl; all_goals first | (intro _; exfalso; omega) | intro _) | (apply WO.pkT; exact rfl; exact rfl) | (apply WO.pkF; exact rfl; exact rfl) | (apply WO.sub; exact rfl; exact rfl; omega) | (apply WO.cll; exact rfl; exact rfl; first | exact q _) | (apply WO.seql; exact rfl; exact rfl; all_goals first | (intro h; exact absurd h (by decide)) | (intro h; exact absurd rfl h) | (intro h; contradiction) | intro _) | (apply WO.sneq; exact rfl; exact rfl; all_goals first | (intro h; exact absurd h (by decide)) | (intro h; exact absurd rfl h) | (intro h; contradiction) | intro _) | (apply WO.clb; exact rfl; exact rfl; exact rfl; all_goals first | (intro h; exact absurd h (by decide)) | intro _) | (apply WO.cll; exact rfl; exact rfl; exact rfl) | (apply WO.hlv; exact rfl; exact rfl; exact rfl) | (apply WO.hpv; exact rfl; exact rfl; exact rfl) | (apply WO.hnv; exact rfl; exact rfl; exact rfl) | (apply WO.pl; exact rfl; exact rfl) | (apply WO.pp; exact rfl; exact rfl)
    all_goals exact ⟨.inr rfl, rfl, _, rfl, congrArg (AV.int .i64) (by unfold contestE; (repeat' split) <;> first | rfl | (exfalso; omega)), rfl⟩
  · have e : contestE l t f m = athE l := by unfold contestE; rw [if_pos h0]
    rw [e]
    generalize athE l = z at *
    repeat' first | apply W.seq | apply SQn | apply W.region | apply WO.nil | apply W.block | apply W.ret | apply W.exit | apply W.skip | apply SQr | apply SQe | apply BQn | apply BQr | apply BQe | (apply BQo; exact rfl) | apply LQe | apply LQr | (apply W.condT; exact rfl) | (apply W.condF; exact rfl) | (apply W.cond; exact rfl; all_goals intro _) | (apply WO.gT; exact rfl) | (apply WO.gF; exact rfl) | (apply WO.sT; exact rfl) | (apply WO.sF; exact rfl) | (apply WO.sU; exact rfl) | (apply WO.lss; exact rfl; exact rfl; all_goals first | (intro _; exfalso; omega) | intro _) | (apply WO.gtr; exact rfl; exact rfl; all_goals first | (intro _; exfalso; omega) | intro _) | (apply WO.eql; exact rfl; exact rfl; all_goals first | (intro _; exfalso; omega) | intro _) | (apply WO.neq; exact rfl; exact rfl; all_goals first | (intro _; exfalso; omega) | intro _) | (apply WO.pkT; exact rfl; exact rfl) | (apply WO.pkF; exact rfl; exact rfl) | (apply WO.sub; exact rfl; exact rfl; omega) | (apply WO.cll; exact rfl; exact rfl; first | exact q _) | (apply WO.seql; exact rfl; exact rfl; all_goals first | (intro h; exact absurd h (by decide)) | (intro h; exact absurd rfl h) | (intro h; contradiction) | intro _) | (apply WO.sneq; exact rfl; exact rfl; all_goals first | (intro h; exact absurd h (by decide)) | (intro h; exact absurd rfl h) | (intro h; contradiction) | intro _) | (apply WO.clb; exact rfl; exact rfl; exact rfl; all_goals first | (intro h; exact absurd h (by decide)) | intro _) | (apply WO.cll; exact rfl; exact rfl; exact rfl) | (apply WO.hlv; exact rfl; exact rfl; exact rfl) | (apply WO.hpv; exact rfl; exact rfl; exact rfl) | (apply WO.hnv; exact rfl; exact rfl; exact rfl) | (apply WO.pl; exact rfl; exact rfl) | (apply WO.pp; exact rfl; exact rfl)
    exact ⟨.inr rfl, rfl, _, rfl, rfl, rfl⟩

theorem outI_iff {x lo hi : Int} : outI x lo hi = true ↔ x < lo ∨ hi < x := by simp [outI]
theorem CF.lit3 (C : CF M) (H : Heap) (a b c r : Int) (h : firstNZ [a, b, c] = r) : M.ext 61 [.sl H.length 0 3 1 (some 3)] (H ++ [some (.cells [.int .i64 a, .int .i64 b, .int .i64 c] 30)]) = some ⟨.int .i64 r, H ++ [some (.cells [.int .i64 a, .int .i64 b, .int .i64 c] 30)], []⟩ := by rw [C.q3 H a b c, h]
theorem CF.lit2 (C : CF M) (H : Heap) (a b r : Int) (h : firstNZ [a, b] = r) : M.ext 61 [.sl H.length 0 2 1 (some 2)] (H ++ [some (.cells [.int .i64 a, .int .i64 b] 30)]) = some ⟨.int .i64 r, H ++ [some (.cells [.int .i64 a, .int .i64 b] 30)], []⟩ := by rw [C.q2 H a b, h]
theorem w11 (C : CF M) (c62 : ∀ (l : List Str) cap h, l.length < 1000000 → (∀ s ∈ l, s.length < 1000000) → M.ext 62 [.vs (strs l) l.length cap] h = some ⟨.int .i64 (athE l), h, []⟩) (l : List Str) (t f m : Int) (hl : l.length < 1000000) (hL : ∀ s ∈ l, s.length < 1000000) :
    Run M 11 [.agg [.vs (strs l) l.length cap, .int .i64 t, .int .i64 f, .int .i64 m]] [] ⟨.int .i64 (contestE l t f m), [], []⟩ := by
  have q := fun h => c62 l cap h hl hL
  have lit := C.lit3 [some (.cells [.vs (strs l) l.length cap, .int .i64 t, .int .i64 f, .int .i64 m] 32)]
  have f1 : ∀ a b c : Int, a ≠ 0 → firstNZ [a, b, c] = a := fun a b c h => by simp [firstNZ, h]
  have f2 : ∀ b c : Int, b ≠ 0 → firstNZ [0, b, c] = b := fun b c h => by simp [firstNZ, h]
  refine run_of_W (by rw [C.ft]; exact ft11) (by simp) ?_
  unfold b11
  simp only [List.map_cons, List.map_nil, List.getElem?_cons_zero, List.getElem?_cons_succ, List.getElem?_nil, Option.getD_some, Option.getD_none]
  by_cases h0 : athE l = 0
  · rw [h0] at q
    by_cases ht : outI t 1 6 = true
    · have q63 := C.c63 t 1 6
      rw [if_pos ht] at q63
      have ql := fun c => lit 0 3 c 3 (f2 3 c (by decide))
      have ht' := outI_iff.1 ht
      repeat' first | apply W.seq | apply SQn | apply W.region | apply WO.nil | apply W.block | apply W.ret | apply W.exit | apply W.skip | apply SQr | apply SQe | apply BQn | apply BQr | apply BQe | (apply BQo; exact rfl) | apply LQe | apply LQr | (apply W.drawro; exact rfl) | apply W.draw | apply WD.nil | (apply WD.gT; exact rfl) | (apply WD.gF; exact rfl) | (apply WD.sT; exact rfl) | (apply WD.sF; exact rfl) | (apply WD.sU; exact rfl) | (apply WD.pure1; exact rfl) | (apply WD.load1; exact rfl; exact rfl; exact rfl) | (apply WD.new1; exact rfl) | (apply WD.clb; exact rfl; exact rfl; exact rfl; exact rfl; all_goals first | (intro h; exact absurd h (by decide)) | intro _) | (apply WD.cl0; exact rfl; exact rfl; exact rfl; exact rfl) | (apply WD.cl1; exact rfl; exact rfl; exact rfl; exact rfl) | (apply W.condT; exact rfl) | (apply W.condF; exact rfl) | (apply W.cond; exact rfl; all_goals intro _) | (apply WO.eql; exact rfl; exact rfl; all_goals first | (intro _; exfalso; omega) | intro _) | (apply WO.neq; exact rfl; exact rfl; all_goals first | (intro _; exfalso; omega) | intro _) | (apply WO.sub; exact rfl; exact rfl; omega) | (apply WO.cll; exact rfl; exact rfl; first | exact q _ | exact q63 _ | exact C.c63 _ _ _ _ | exact ql _) | (apply WD.cl0; exact rfl; exact rfl; exact rfl; first | exact q _ | exact q63 _ | exact C.c63 _ _ _ _ | exact ql _) | (apply WO.seql; exact rfl; exact rfl; all_goals first | (intro h; exact absurd h (by decide)) | (intro h; exact absurd rfl h) | (intro h; contradiction) | intro _) | (apply WO.sneq; exact rfl; exact rfl; all_goals first | (intro h; exact absurd h (by decide)) | (intro h; exact absurd rfl h) | (intro h; contradiction) | intro _) | (apply WO.clb; exact rfl; exact rfl; exact rfl; all_goals first | (intro h; exact absurd h (by decide)) | intro _) | (apply WO.cll; exact rfl; exact rfl; exact rfl) | (apply WO.hlv; exact rfl; exact rfl; exact rfl) | (apply WO.hpv; exact rfl; exact rfl; exact rfl) | (apply WO.hnv; exact rfl; exact rfl; exact rfl) | (apply WO.pl; exact rfl; exact rfl) | (apply WO.pp; exact rfl; exact rfl)
      all_goals first | (exfalso; omega) | exact ⟨.inr rfl, rfl, _, rfl, congrArg (AV.int .i64) (by unfold contestE; (repeat' split) <;> first | rfl | (exfalso; omega)), rfl⟩
    · have q63 := C.c63 t 1 6
      rw [if_neg ht] at q63
      have ht' : ¬ (t < 1 ∨ 6 < t) := fun h => ht (outI_iff.2 h)
      by_cases hm : outI m 0 (6 - t) = true
      · have q63' := C.c63 m 0 (6 - t)
        rw [if_pos hm] at q63'
        have hm' := outI_iff.1 hm
        have ql := lit 0 0 3 3 rfl
        repeat' first | apply W.seq | apply SQn | apply W.region | apply WO.nil | apply W.block | apply W.ret | apply W.exit | apply W.skip | apply SQr | apply SQe | apply BQn | apply BQr | apply BQe | (apply BQo; exact rfl) | apply LQe | apply LQr | (apply W.drawro; exact rfl) | apply W.draw | apply WD.nil | (apply WD.gT; exact rfl) | (apply WD.gF; exact rfl) | (apply WD.sT; exact rfl) | (apply WD.sF; exact rfl) | (apply WD.sU; exact rfl) | (apply WD.pure1; exact rfl) | (apply WD.load1; exact rfl; exact rfl; exact rfl) | (apply WD.new1; exact rfl) | (apply WD.clb; exact rfl; exact rfl; exact rfl; exact rfl; all_goals first | (intro h; exact absurd h (by decide)) | intro _) | (apply WD.cl0; exact rfl; exact rfl; exact rfl; exact rfl) | (apply WD.cl1; exact rfl; exact rfl; exact rfl; exact rfl) | (apply W.condT; exact rfl) | (apply W.condF; exact rfl) | (apply W.cond; exact rfl; all_goals intro _) | (apply WO.eql; exact rfl; exact rfl; all_goals first | (intro _; exfalso; omega) | intro _) | (apply WO.neq; exact rfl; exact rfl; all_goals first | (intro _; exfalso; omega) | intro _) | (apply WO.sub; exact rfl; exact rfl; omega) | (apply WO.cll; exact rfl; exact rfl; first | exact q _ | exact q63 _ | exact q63' _ | exact ql) | (apply WD.cl0; exact rfl; exact rfl; exact rfl; first | exact q _ | exact q63 _ | exact q63' _ | exact ql) | (apply WO.seql; exact rfl; exact rfl; all_goals first | (intro h; exact absurd h (by decide)) | (intro h; exact absurd rfl h) | (intro h; contradiction) | intro _) | (apply WO.sneq; exact rfl; exact rfl; all_goals first | (intro h; exact absurd h (by decide)) | (intro h; exact absurd rfl h) | (intro h; contradiction) | intro _) | (apply WO.clb; exact rfl; exact rfl; exact rfl; all_goals first | (intro h; exact absurd h (by decide)) | intro _) | (apply WO.cll; exact rfl; exact rfl; exact rfl) | (apply WO.hlv; exact rfl; exact rfl; exact rfl) | (apply WO.hpv; exact rfl; exact rfl; exact rfl) | (apply WO.hnv; exact rfl; exact rfl; exact rfl) | (apply WO.pl; exact rfl; exact rfl) | (apply WO.pp; exact rfl; exact rfl)
        all_goals first | (exfalso; omega) | exact ⟨.inr rfl, rfl, _, rfl, congrArg (AV.int .i64) (by unfold contestE; (repeat' split) <;> first | rfl | (exfalso; omega)), rfl⟩
      · have q63' := C.c63 m 0 (6 - t)
        rw [if_neg hm] at q63'
        have hm' : ¬ (m < 0 ∨ 6 - t < m) := fun h => hm (outI_iff.2 h)
        have ql := lit 0 0 0 0 rfl
        by_cases h1 : m = 0
        · subst h1
          by_cases hf : f = 0
          · have q64 : ∀ h, M.ext 64 [.bool false, .int .i64 3] h = some ⟨.int .i64 0, h, []⟩ := C.c64 false 3
            repeat' first | apply W.seq | apply SQn | apply W.region | apply WO.nil | apply W.block | apply W.ret | apply W.exit | apply W.skip | apply SQr | apply SQe | apply BQn | apply BQr | apply BQe | (apply BQo; exact rfl) | apply LQe | apply LQr | (apply W.drawro; exact rfl) | apply W.draw | apply WD.nil | (apply WD.gT; exact rfl) | (apply WD.gF; exact rfl) | (apply WD.sT; exact rfl) | (apply WD.sF; exact rfl) | (apply WD.sU; exact rfl) | (apply WD.pure1; exact rfl) | (apply WD.load1; exact rfl; exact rfl; exact rfl) | (apply WD.new1; exact rfl) | (apply WD.clb; exact rfl; exact rfl; exact rfl; exact rfl; all_goals first | (intro h; exact absurd h (by decide)) | intro _) | (apply WD.cl0; exact rfl; exact rfl; exact rfl; exact rfl) | (apply WD.cl1; exact rfl; exact rfl; exact rfl; exact rfl) | (apply W.condT; exact rfl) | (apply W.condF; exact rfl) | (apply W.cond; exact rfl; all_goals intro _) | (apply WO.eql; exact rfl; exact rfl; all_goals first | (intro _; exfalso; omega) | intro _) | (apply WO.neq; exact rfl; exact rfl; all_goals first | (intro _; exfalso; omega) | intro _) | (apply WO.sub; exact rfl; exact rfl; omega) | (apply WO.cll; exact rfl; exact rfl; first | exact q _ | exact q63 _ | exact q63' _ | exact ql | exact q64 _) | (apply WD.cl0; exact rfl; exact rfl; exact rfl; first | exact q _ | exact q63 _ | exact q63' _ | exact ql | exact q64 _) | (apply WO.seql; exact rfl; exact rfl; all_goals first | (intro h; exact absurd h (by decide)) | (intro h; exact absurd rfl h) | (intro h; contradiction) | intro _) | (apply WO.sneq; exact rfl; exact rfl; all_goals first | (intro h; exact absurd h (by decide)) | (intro h; exact absurd rfl h) | (intro h; contradiction) | intro _) | (apply WO.clb; exact rfl; exact rfl; exact rfl; all_goals first | (intro h; exact absurd h (by decide)) | intro _) | (apply WO.cll; exact rfl; exact rfl; exact rfl) | (apply WO.hlv; exact rfl; exact rfl; exact rfl) | (apply WO.hpv; exact rfl; exact rfl; exact rfl) | (apply WO.hnv; exact rfl; exact rfl; exact rfl) | (apply WO.pl; exact rfl; exact rfl) | (apply WO.pp; exact rfl; exact rfl)
            all_goals first | (exfalso; omega) | exact ⟨.inr rfl, rfl, _, rfl, congrArg (AV.int .i64) (by unfold contestE; (repeat' split) <;> first | rfl | (exfalso; omega)), rfl⟩
          · have q64 : ∀ h, M.ext 64 [.bool true, .int .i64 3] h = some ⟨.int .i64 3, h, []⟩ := C.c64 true 3
            repeat' first | apply W.seq | apply SQn | apply W.region | apply WO.nil | apply W.block | apply W.ret | apply W.exit | apply W.skip | apply SQr | apply SQe | apply BQn | apply BQr | apply BQe | (apply BQo; exact rfl) | apply LQe | apply LQr | (apply W.drawro; exact rfl) | apply W.draw | apply WD.nil | (apply WD.gT; exact rfl) | (apply WD.gF; exact rfl) | (apply WD.sT; exact rfl) | (apply WD.sF; exact rfl) | (apply WD.sU; exact rfl) | (apply WD.pure1; exact rfl) | (apply WD.load1; exact rfl; exact rfl; exact rfl) | (apply WD.new1; exact rfl) | (apply WD.clb; exact rfl; exact rfl; exact rfl; exact rfl; all_goals first | (intro h; exact absurd h (by decide)) | intro _) | (apply WD.cl0; exact rfl; exact rfl; exact rfl; exact rfl) | (apply WD.cl1; exact rfl; exact rfl; exact rfl; exact rfl) | (apply W.condT; exact rfl) | (apply W.condF; exact rfl) | (apply W.cond; exact rfl; all_goals intro _) | (apply WO.eql; exact rfl; exact rfl; all_goals first | (intro _; exfalso; omega) | intro _) | (apply WO.neq; exact rfl; exact rfl; all_goals first | (intro _; exfalso; omega) | intro _) | (apply WO.sub; exact rfl; exact rfl; omega) | (apply WO.cll; exact rfl; exact rfl; first | exact q _ | exact q63 _ | exact q63' _ | exact ql | exact q64 _) | (apply WD.cl0; exact rfl; exact rfl; exact rfl; first | exact q _ | exact q63 _ | exact q63' _ | exact ql | exact q64 _) | (apply WO.seql; exact rfl; exact rfl; all_goals first | (intro h; exact absurd h (by decide)) | (intro h; exact absurd rfl h) | (intro h; contradiction) | intro _) | (apply WO.sneq; exact rfl; exact rfl; all_goals first | (intro h; exact absurd h (by decide)) | (intro h; exact absurd rfl h) | (intro h; contradiction) | intro _) | (apply WO.clb; exact rfl; exact rfl; exact rfl; all_goals first | (intro h; exact absurd h (by decide)) | intro _) | (apply WO.cll; exact rfl; exact rfl; exact rfl) | (apply WO.hlv; exact rfl; exact rfl; exact rfl) | (apply WO.hpv; exact rfl; exact rfl; exact rfl) | (apply WO.hnv; exact rfl; exact rfl; exact rfl) | (apply WO.pl; exact rfl; exact rfl) | (apply WO.pp; exact rfl; exact rfl)
            all_goals first | (exfalso; omega) | exact ⟨.inr rfl, rfl, _, rfl, congrArg (AV.int .i64) (by unfold contestE; (repeat' split) <;> first | rfl | (exfalso; omega)), rfl⟩
        · by_cases hf : outI f 1 32 = true
          · have q63f := C.c63 f 1 32
            rw [if_pos hf] at q63f
            have hf' := outI_iff.1 hf
            repeat' first | apply W.seq | apply SQn | apply W.region | apply WO.nil | apply W.block | apply W.ret | apply W.exit | apply W.skip | apply SQr | apply SQe | apply BQn | apply BQr | apply BQe | (apply BQo; exact rfl) | apply LQe | apply LQr | (apply W.drawro; exact rfl) | apply W.draw | apply WD.nil | (apply WD.gT; exact rfl) | (apply WD.gF; exact rfl) | (apply WD.sT; exact rfl) | (apply WD.sF; exact rfl) | (apply WD.sU; exact rfl) | (apply WD.pure1; exact rfl) | (apply WD.load1; exact rfl; exact rfl; exact rfl) | (apply WD.new1; exact rfl) | (apply WD.clb; exact rfl; exact rfl; exact rfl; exact rfl; all_goals first | (intro h; exact absurd h (by decide)) | intro _) | (apply WD.cl0; exact rfl; exact rfl; exact rfl; exact rfl) | (apply WD.cl1; exact rfl; exact rfl; exact rfl; exact rfl) | (apply W.condT; exact rfl) | (apply W.condF; exact rfl) | (apply W.cond; exact rfl; all_goals intro _) | (apply WO.eql; exact rfl; exact rfl; all_goals first | (intro _; exfalso; omega) | intro _) | (apply WO.neq; exact rfl; exact rfl; all_goals first | (intro _; exfalso; omega) | intro _) | (apply WO.sub; exact rfl; exact rfl; omega) | (apply WO.cll; exact rfl; exact rfl; first | exact q _ | exact q63 _ | exact q63' _ | exact ql | exact q63f _) | (apply WD.cl0; exact rfl; exact rfl; exact rfl; first | exact q _ | exact q63 _ | exact q63' _ | exact ql | exact q63f _) | (apply WO.seql; exact rfl; exact rfl; all_goals first | (intro h; exact absurd h (by decide)) | (intro h; exact absurd rfl h) | (intro h; contradiction) | intro _) | (apply WO.sneq; exact rfl; exact rfl; all_goals first | (intro h; exact absurd h (by decide)) | (intro h; exact absurd rfl h) | (intro h; contradiction) | intro _) | (apply WO.clb; exact rfl; exact rfl; exact rfl; all_goals first | (intro h; exact absurd h (by decide)) | intro _) | (apply WO.cll; exact rfl; exact rfl; exact rfl) | (apply WO.hlv; exact rfl; exact rfl; exact rfl) | (apply WO.hpv; exact rfl; exact rfl; exact rfl) | (apply WO.hnv; exact rfl; exact rfl; exact rfl) | (apply WO.pl; exact rfl; exact rfl) | (apply WO.pp; exact rfl; exact rfl)
            all_goals first | (exfalso; omega) | exact ⟨.inr rfl, rfl, _, rfl, congrArg (AV.int .i64) (by unfold contestE; (repeat' split) <;> first | rfl | (exfalso; omega)), rfl⟩
          · have q63f := C.c63 f 1 32
            rw [if_neg hf] at q63f
            have hf' : ¬ (f < 1 ∨ 32 < f) := fun h => hf (outI_iff.2 h)
            repeat' first | apply W.seq | apply SQn | apply W.region | apply WO.nil | apply W.block | apply W.ret | apply W.exit | apply W.skip | apply SQr | apply SQe | apply BQn | apply BQr | apply BQe | (apply BQo; exact rfl) | apply LQe | apply LQr | (apply W.drawro; exact rfl) | apply W.draw | apply WD.nil | (apply WD.gT; exact rfl) | (apply WD.gF; exact rfl) | (apply WD.sT; exact rfl) | (apply WD.sF; exact rfl) | (apply WD.sU; exact rfl) | (apply WD.pure1; exact rfl) | (apply WD.load1; exact rfl; exact rfl; exact rfl) | (apply WD.new1; exact rfl) | (apply WD.clb; exact rfl; exact rfl; exact rfl; exact rfl; all_goals first | (intro h; exact absurd h (by decide)) | intro _) | (apply WD.cl0; exact rfl; exact rfl; exact rfl; exact rfl) | (apply WD.cl1; exact rfl; exact rfl; exact rfl; exact rfl) | (apply W.condT; exact rfl) | (apply W.condF; exact rfl) | (apply W.cond; exact rfl; all_goals intro _) | (apply WO.eql; exact rfl; exact rfl; all_goals first | (intro _; exfalso; omega) | intro _) | (apply WO.neq; exact rfl; exact rfl; all_goals first | (intro _; exfalso; omega) | intro _) | (apply WO.sub; exact rfl; exact rfl; omega) | (apply WO.cll; exact rfl; exact rfl; first | exact q _ | exact q63 _ | exact q63' _ | exact ql | exact q63f _) | (apply WD.cl0; exact rfl; exact rfl; exact rfl; first | exact q _ | exact q63 _ | exact q63' _ | exact ql | exact q63f _) | (apply WO.seql; exact rfl; exact rfl; all_goals first | (intro h; exact absurd h (by decide)) | (intro h; exact absurd rfl h) | (intro h; contradiction) | intro _) | (apply WO.sneq; exact rfl; exact rfl; all_goals first | (intro h; exact absurd h (by decide)) | (intro h; exact absurd rfl h) | (intro h; contradiction) | intro _) | (apply WO.clb; exact rfl; exact rfl; exact rfl; all_goals first | (intro h; exact absurd h (by decide)) | intro _) | (apply WO.cll; exact rfl; exact rfl; exact rfl) | (apply WO.hlv; exact rfl; exact rfl; exact rfl) | (apply WO.hpv; exact rfl; exact rfl; exact rfl) | (apply WO.hnv; exact rfl; exact rfl; exact rfl) | (apply WO.pl; exact rfl; exact rfl) | (apply WO.pp; exact rfl; exact rfl)
            all_goals first | (exfalso; omega) | exact ⟨.inr rfl, rfl, _, rfl, congrArg (AV.int .i64) (by unfold contestE; (repeat' split) <;> first | rfl | (exfalso; omega)), rfl⟩
  · have e : contestE l t f m = athE l := by unfold contestE; rw [if_pos h0]
    rw [e]
    generalize athE l = z at *
    have ql := fun b c => lit z b c z (f1 z b c h0)
    repeat' first | apply W.seq | apply SQn | apply W.region | apply WO.nil | apply W.block | apply W.ret | apply W.exit | apply W.skip | apply SQr | apply SQe | apply BQn | apply BQr | apply BQe | (apply BQo; exact rfl) | apply LQe | apply LQr | (apply W.drawro; exact rfl) | apply W.draw | apply WD.nil | (apply WD.gT; exact rfl) | (apply WD.gF; exact rfl) | (apply WD.sT; exact rfl) | (apply WD.sF; exact rfl) | (apply WD.sU; exact rfl) | (apply WD.pure1; exact rfl) | (apply WD.load1; exact rfl; exact rfl; exact rfl) | (apply WD.new1; exact rfl) | (apply WD.clb; exact rfl; exact rfl; exact rfl; exact rfl; all_goals first | (intro h; exact absurd h (by decide)) | intro _) | (apply WD.cl0; exact rfl; exact rfl; exact rfl; exact rfl) | (apply WD.cl1; exact rfl; exact rfl; exact rfl; exact rfl) | (apply W.condT; exact rfl) | (apply W.condF; exact rfl) | (apply W.cond; exact rfl; all_goals intro _) | (apply WO.eql; exact rfl; exact rfl; all_goals first | (intro _; exfalso; omega) | intro _) | (apply WO.neq; exact rfl; exact rfl; all_goals first | (intro _; exfalso; omega) | intro _) | (apply WO.sub; exact rfl; exact rfl; omega) | (apply WO.cll; exact rfl; exact rfl; first | exact q _ | exact C.c63 _ _ _ _ | exact ql _ _) | (apply WD.cl0; exact rfl; exact rfl; exact rfl; first | exact q _ | exact C.c63 _ _ _ _ | exact ql _ _) | (apply WO.seql; exact rfl; exact rfl; all_goals first | (intro h; exact absurd h (by decide)) | (intro h; exact absurd rfl h) | (intro h; contradiction) | intro _) | (apply WO.sneq; exact rfl; exact rfl; all_goals first | (intro h; exact absurd h (by decide)) | (intro h; exact absurd rfl h) | (intro h; contradiction) | intro _) | (apply WO.clb; exact rfl; exact rfl; exact rfl; all_goals first | (intro h; exact absurd h (by decide)) | intro _) | (apply WO.cll; exact rfl; exact rfl; exact rfl) | (apply WO.hlv; exact rfl; exact rfl; exact rfl) | (apply WO.hpv; exact rfl; exact rfl; exact rfl) | (apply WO.hnv; exact rfl; exact rfl; exact rfl) | (apply WO.pl; exact rfl; exact rfl) | (apply WO.pp; exact rfl; exact rfl)
    all_goals first | (exfalso; omega) | exact ⟨.inr rfl, rfl, _, rfl, rfl, rfl⟩
end Go.Ab.Ch6


/-
  Own work: chapter 6: the errors of heights, by both.
-/
namespace Go.Ab.Ch6
variable {M : Mach} {cap c1 c2 : Option Nat}

theorem heightsE_drop {hs : List Int} {last : Int} {i : Nat} (h : i < hs.length) : heightsE last (hs.drop i) = if heightE last hs[i]! = 0 then heightsE hs[i]! (hs.drop (i + 1)) else heightE last hs[i]! := by
  rw [List.drop_eq_getElem_cons h, getElem!_pos hs i h, heightsE]

set_option maxHeartbeats 1000000 in
theorem loop13 (C : CF M) (l : List Str) (hs : List Int) (step : Int) (hl : hs.length < 1000000) (a0 : AV) {Q : Ex → StW → Prop} : ∀ (r i : Nat) (last : Int) (a3 a5 a6 : AV) (H : Heap) (lo : List (Nat × AV)) (wr : List Nat), i + r = hs.length → H.at 0 = some (.cells [.vs (strs l) l.length c1, .vs (ints hs) hs.length c2, .int .i64 step] 35) →
    (heightsE last (hs.drop i) = 0 → ∀ a3 a4 a5 a6 lo H wr, H.at 0 = some (.cells [.vs (strs l) l.length c1, .vs (ints hs) hs.length c2, .int .i64 step] 35) → Q (.exit 0) ⟨⟨[a0, .ptr 0 0, .int .i64 0, a3, a4, a5, a6, .vs (ints hs) hs.length c2, .int .i64 hs.length, .int .i64 hs.length], lo, H, []⟩, wr⟩) →
    (heightsE last (hs.drop i) ≠ 0 → ∀ a3 a4 a5 a6 a9 lo H wr, Q .ret ⟨⟨[a0, .ptr 0 0, .int .i64 (heightsE last (hs.drop i)), a3, a4, a5, a6, .vs (ints hs) hs.length c2, .int .i64 hs.length, a9], lo, H, []⟩, wr⟩) →
    W M (.loop b13_0) ⟨⟨[a0, .ptr 0 0, .int .i64 0, a3, .int .i64 last, a5, a6, .vs (ints hs) hs.length c2, .int .i64 hs.length, .int .i64 i], lo, H, []⟩, wr⟩ Q
  | 0, i, last, a3, a5, a6, H, lo, wr, hi, hb, h1, h2 => by
    obtain rfl : i = hs.length := by omega
    refine W.loop ?_
    unfold b13_0
    repeat' first | apply W.seq | apply SQn | apply W.region | apply WO.nil | apply W.block | apply W.ret | apply W.exit | apply W.skip | apply SQr | apply SQe | apply BQn | apply BQr | apply BQe | (apply BQo; exact rfl) | apply LQe | apply LQr | (apply W.condT; exact rfl) | (apply W.condF; exact rfl) | (apply W.cond; exact rfl; all_goals intro _) | (apply WO.lss; exact rfl; exact rfl; all_goals first | (intro _; exfalso; omega) | intro _) | (apply WO.leq; exact rfl; exact rfl; all_goals first | (intro _; exfalso; omega) | intro _) | (apply WO.neq; exact rfl; exact rfl; all_goals first | (intro _; exfalso; omega) | intro _) | (apply WO.add; exact rfl; exact rfl; omega) | (apply WO.remp; exact rfl; exact rfl; omega; intro _ _) | (apply WO.remn; exact rfl; exact rfl; omega; intro _ _) | (apply WO.rem; exact rfl; exact rfl; omega) | (apply WO.iav; exact rfl; exact rfl; omega) | (apply WO.ias; exact rfl; exact rfl; omega) | (apply WO.lda; exact rfl; exact fun _ => rfl; (first | omega | (simp only [List.length_set]; omega) | (simp; omega)); decide; exact rfl; case ia => infer_instance) | (apply WO.lsa; exact rfl; (first | exact rfl | assumption | exact at_new | (apply at_old; assumption) | (apply at_put; first | assumption | (simp only [put_length]; assumption))); exact fun _ => rfl; (first | omega | (simp only [List.length_set]; omega) | (simp; omega)); decide; exact rfl; case ia => infer_instance) | (apply WO.sneq; exact rfl; exact rfl; all_goals first | (intro h; exact absurd h (by decide)) | (intro h; exact absurd rfl h) | (intro h; contradiction) | intro _) | (apply WO.clb; exact rfl; exact rfl; exact rfl; all_goals first | (intro h; exact absurd h (by decide)) | intro _) | (apply WO.cll; exact rfl; exact rfl; exact rfl) | (apply WO.hlv; exact rfl; exact rfl; exact rfl) | (apply WO.hpv; exact rfl; exact rfl; exact rfl) | (apply WO.hnv; exact rfl; exact rfl; exact rfl) | (apply WO.pl; exact rfl; exact rfl) | (apply WO.pp; exact rfl; exact rfl)
    exact h1 (by simp [heightsE]) _ _ _ _ _ _ _ hb
  | r + 1, i, last, a3, a5, a6, H, lo, wr, hi, hb, h1, h2 => by
    have ei : ((i : Int)).toNat = i := by omega
    have e := heightsE_drop (hs := hs) (last := last) (i := ((i : Int)).toNat) (by omega)
    rw [show heightsE last (hs.drop ((i : Int)).toNat) = heightsE last (hs.drop i) from by rw [ei]] at e
    have q64t : ∀ e h, M.ext 64 [.bool true, .int .i64 e] h = some ⟨.int .i64 e, h, []⟩ := fun e h => C.c64 true e h
    have q64f : ∀ e h, M.ext 64 [.bool false, .int .i64 e] h = some ⟨.int .i64 0, h, []⟩ := fun e h => C.c64 false e h
    have f1 : ∀ b c : Int, firstNZ [3, b, c] = 3 := fun b c => by simp [firstNZ]
    have f2 : ∀ c : Int, firstNZ [0, 3, c] = 3 := fun c => by simp [firstNZ]
    have q63 := C.c63 hs[((i : Int)).toNat]! 10 999999
    have l3 := fun b c => C.lit3 H 3 b c 3 (f1 b c)
    have l03 := fun c => C.lit3 H 0 3 c 3 (f2 c)
    have l11 := C.lit3 H 0 0 11 11 rfl
    have l00 := C.lit3 H 0 0 0 0 rfl
    refine W.loop ?_
    by_cases ho : outI hs[((i : Int)).toNat]! 10 999999 = true
    · rw [if_pos ho] at q63
      have ho' := outI_iff.1 ho
      have eE : heightE last hs[((i : Int)).toNat]! = 3 := by unfold heightE; rw [if_pos ho']
      rw [eE, if_neg (by decide)] at e
      rw [e] at h1 h2
      unfold b13_0
      repeat' first | apply W.seq | apply SQn | apply W.region | apply WO.nil | apply W.block | apply W.ret | apply W.exit | apply W.skip | apply SQr | apply SQe | apply BQn | apply BQr | apply BQe | (apply BQo; exact rfl) | apply LQe | apply LQr | (apply W.condT; exact rfl) | (apply W.condF; exact rfl) | (apply W.cond; exact rfl; all_goals intro _) | (apply WO.lss; exact rfl; exact rfl; all_goals first | (intro _; exfalso; omega) | intro _) | (apply WO.leq; exact rfl; exact rfl; all_goals first | (intro _; exfalso; omega) | intro _) | (apply WO.neq; exact rfl; exact rfl; all_goals first | (intro _; exfalso; omega) | intro _) | (apply WO.add; exact rfl; exact rfl; omega) | (apply WO.remp; exact rfl; exact rfl; omega; intro _ _) | (apply WO.remn; exact rfl; exact rfl; omega; intro _ _) | (apply WO.rem; exact rfl; exact rfl; omega) | (apply WO.cll; exact rfl; exact rfl; first | exact q63 _ | exact q64t _ _ | exact q64f _ _ | exact l3 _ _) | (apply WO.iav; exact rfl; exact rfl; omega) | (apply WO.ias; exact rfl; exact rfl; omega) | (apply WO.lda; exact rfl; exact fun _ => rfl; (first | omega | (simp only [List.length_set]; omega) | (simp; omega)); decide; exact rfl; case ia => infer_instance) | (apply WO.lsa; exact rfl; (first | exact rfl | assumption | exact at_new | (apply at_old; assumption) | (apply at_put; first | assumption | (simp only [put_length]; assumption))); exact fun _ => rfl; (first | omega | (simp only [List.length_set]; omega) | (simp; omega)); decide; exact rfl; case ia => infer_instance) | (apply WO.sneq; exact rfl; exact rfl; all_goals first | (intro h; exact absurd h (by decide)) | (intro h; exact absurd rfl h) | (intro h; contradiction) | intro _) | (apply WO.clb; exact rfl; exact rfl; exact rfl; all_goals first | (intro h; exact absurd h (by decide)) | intro _) | (apply WO.cll; exact rfl; exact rfl; exact rfl) | (apply WO.hlv; exact rfl; exact rfl; exact rfl) | (apply WO.hpv; exact rfl; exact rfl; exact rfl) | (apply WO.hnv; exact rfl; exact rfl; exact rfl) | (apply WO.pl; exact rfl; exact rfl) | (apply WO.pp; exact rfl; exact rfl)
      all_goals first | exact h2 (by decide) _ _ _ _ _ _ _ _ | (exfalso; omega)
    · rw [if_neg ho] at q63
      have ho' : ¬ (hs[((i : Int)).toNat]! < 10 ∨ 999999 < hs[((i : Int)).toNat]!) := fun h => ho (outI_iff.2 h)
      by_cases hm : hs[((i : Int)).toNat]! % 10 = 0
      · by_cases hle : hs[((i : Int)).toNat]! ≤ last
        · have eE : heightE last hs[((i : Int)).toNat]! = 11 := by unfold heightE; rw [if_neg ho', if_neg (fun h => h hm), if_pos hle]
          rw [eE, if_neg (by decide)] at e
          rw [e] at h1 h2
          unfold b13_0
          repeat' first | apply W.seq | apply SQn | apply W.region | apply WO.nil | apply W.block | apply W.ret | apply W.exit | apply W.skip | apply SQr | apply SQe | apply BQn | apply BQr | apply BQe | (apply BQo; exact rfl) | apply LQe | apply LQr | (apply W.condT; exact rfl) | (apply W.condF; exact rfl) | (apply W.cond; exact rfl; all_goals intro _) | (apply WO.lss; exact rfl; exact rfl; all_goals first | (intro _; exfalso; omega) | intro _) | (apply WO.leq; exact rfl; exact rfl; all_goals first | (intro _; exfalso; omega) | intro _) | (apply WO.neq; exact rfl; exact rfl; all_goals first | (intro _; exfalso; omega) | intro _) | (apply WO.add; exact rfl; exact rfl; omega) | (apply WO.remp; exact rfl; exact rfl; omega; intro _ _) | (apply WO.remn; exact rfl; exact rfl; omega; intro _ _) | (apply WO.rem; exact rfl; exact rfl; omega) | (apply WO.cll; exact rfl; exact rfl; first | exact q63 _ | exact q64t _ _ | exact q64f _ _ | exact l11) | (apply WO.iav; exact rfl; exact rfl; omega) | (apply WO.ias; exact rfl; exact rfl; omega) | (apply WO.lda; exact rfl; exact fun _ => rfl; (first | omega | (simp only [List.length_set]; omega) | (simp; omega)); decide; exact rfl; case ia => infer_instance) | (apply WO.lsa; exact rfl; (first | exact rfl | assumption | exact at_new | (apply at_old; assumption) | (apply at_put; first | assumption | (simp only [put_length]; assumption))); exact fun _ => rfl; (first | omega | (simp only [List.length_set]; omega) | (simp; omega)); decide; exact rfl; case ia => infer_instance) | (apply WO.sneq; exact rfl; exact rfl; all_goals first | (intro h; exact absurd h (by decide)) | (intro h; exact absurd rfl h) | (intro h; contradiction) | intro _) | (apply WO.clb; exact rfl; exact rfl; exact rfl; all_goals first | (intro h; exact absurd h (by decide)) | intro _) | (apply WO.cll; exact rfl; exact rfl; exact rfl) | (apply WO.hlv; exact rfl; exact rfl; exact rfl) | (apply WO.hpv; exact rfl; exact rfl; exact rfl) | (apply WO.hnv; exact rfl; exact rfl; exact rfl) | (apply WO.pl; exact rfl; exact rfl) | (apply WO.pp; exact rfl; exact rfl)
          all_goals first | exact h2 (by decide) _ _ _ _ _ _ _ _ | (exfalso; omega)
        · have eE : heightE last hs[((i : Int)).toNat]! = 0 := by unfold heightE; rw [if_neg ho', if_neg (fun h => h hm), if_neg hle]
          rw [eE, if_pos rfl, ei] at e
          rw [e] at h1 h2
          have hb' := at_old (l := [some (.cells [.int .i64 0, .int .i64 0, .int .i64 0] 30)]) hb
          unfold b13_0
          repeat' first | apply W.seq | apply SQn | apply W.region | apply WO.nil | apply W.block | apply W.ret | apply W.exit | apply W.skip | apply SQr | apply SQe | apply BQn | apply BQr | apply BQe | (apply BQo; exact rfl) | apply LQe | apply LQr | (apply W.condT; exact rfl) | (apply W.condF; exact rfl) | (apply W.cond; exact rfl; all_goals intro _) | (apply WO.lss; exact rfl; exact rfl; all_goals first | (intro _; exfalso; omega) | intro _) | (apply WO.leq; exact rfl; exact rfl; all_goals first | (intro _; exfalso; omega) | intro _) | (apply WO.neq; exact rfl; exact rfl; all_goals first | (intro _; exfalso; omega) | intro _) | (apply WO.add; exact rfl; exact rfl; omega) | (apply WO.remp; exact rfl; exact rfl; omega; intro _ _) | (apply WO.remn; exact rfl; exact rfl; omega; intro _ _) | (apply WO.rem; exact rfl; exact rfl; omega) | (apply WO.cll; exact rfl; exact rfl; first | exact q63 _ | exact q64t _ _ | exact q64f _ _ | exact l00) | (apply WO.iav; exact rfl; exact rfl; omega) | (apply WO.ias; exact rfl; exact rfl; omega) | (apply WO.lda; exact rfl; exact fun _ => rfl; (first | omega | (simp only [List.length_set]; omega) | (simp; omega)); decide; exact rfl; case ia => infer_instance) | (apply WO.lsa; exact rfl; (first | exact rfl | assumption | exact at_new | (apply at_old; assumption) | (apply at_put; first | assumption | (simp only [put_length]; assumption))); exact fun _ => rfl; (first | omega | (simp only [List.length_set]; omega) | (simp; omega)); decide; exact rfl; case ia => infer_instance) | (apply WO.sneq; exact rfl; exact rfl; all_goals first | (intro h; exact absurd h (by decide)) | (intro h; exact absurd rfl h) | (intro h; contradiction) | intro _) | (apply WO.clb; exact rfl; exact rfl; exact rfl; all_goals first | (intro h; exact absurd h (by decide)) | intro _) | (apply WO.cll; exact rfl; exact rfl; exact rfl) | (apply WO.hlv; exact rfl; exact rfl; exact rfl) | (apply WO.hpv; exact rfl; exact rfl; exact rfl) | (apply WO.hnv; exact rfl; exact rfl; exact rfl) | (apply WO.pl; exact rfl; exact rfl) | (apply WO.pp; exact rfl; exact rfl)
          all_goals first | (exfalso; omega) | skip
          rw [ei]
          exact LQn (loop13 C l hs step hl a0 r (i + 1) hs[i]! _ _ _ _ _ _ (by omega) hb' h1 h2)
      · have eE : heightE last hs[((i : Int)).toNat]! = 3 := by unfold heightE; rw [if_neg ho', if_pos hm]
        rw [eE, if_neg (by decide)] at e
        rw [e] at h1 h2
        unfold b13_0
        repeat' first | apply W.seq | apply SQn | apply W.region | apply WO.nil | apply W.block | apply W.ret | apply W.exit | apply W.skip | apply SQr | apply SQe | apply BQn | apply BQr | apply BQe | (apply BQo; exact rfl) | apply LQe | apply LQr | (apply W.condT; exact rfl) | (apply W.condF; exact rfl) | (apply W.cond; exact rfl; all_goals intro _) | (apply WO.lss; exact rfl; exact rfl; all_goals first | (intro _; exfalso; omega) | intro _) | (apply WO.leq; exact rfl; exact rfl; all_goals first | (intro _; exfalso; omega) | intro _) | (apply WO.neq; exact rfl; exact rfl; all_goals first | (intro _; exfalso; omega) | intro _) | (apply WO.add; exact rfl; exact rfl; omega) | (apply WO.remp; exact rfl; exact rfl; omega; intro _ _) | (apply WO.remn; exact rfl; exact rfl; omega; intro _ _) | (apply WO.rem; exact rfl; exact rfl; omega) | (apply WO.cll; exact rfl; exact rfl; first | exact q63 _ | exact q64t _ _ | exact q64f _ _ | exact l03 _) | (apply WO.iav; exact rfl; exact rfl; omega) | (apply WO.ias; exact rfl; exact rfl; omega) | (apply WO.lda; exact rfl; exact fun _ => rfl; (first | omega | (simp only [List.length_set]; omega) | (simp; omega)); decide; exact rfl; case ia => infer_instance) | (apply WO.lsa; exact rfl; (first | exact rfl | assumption | exact at_new | (apply at_old; assumption) | (apply at_put; first | assumption | (simp only [put_length]; assumption))); exact fun _ => rfl; (first | omega | (simp only [List.length_set]; omega) | (simp; omega)); decide; exact rfl; case ia => infer_instance) | (apply WO.sneq; exact rfl; exact rfl; all_goals first | (intro h; exact absurd h (by decide)) | (intro h; exact absurd rfl h) | (intro h; contradiction) | intro _) | (apply WO.clb; exact rfl; exact rfl; exact rfl; all_goals first | (intro h; exact absurd h (by decide)) | intro _) | (apply WO.cll; exact rfl; exact rfl; exact rfl) | (apply WO.hlv; exact rfl; exact rfl; exact rfl) | (apply WO.hpv; exact rfl; exact rfl; exact rfl) | (apply WO.hnv; exact rfl; exact rfl; exact rfl) | (apply WO.pl; exact rfl; exact rfl) | (apply WO.pp; exact rfl; exact rfl)
        all_goals first | exact h2 (by decide) _ _ _ _ _ _ _ _ | (exfalso; omega)
set_option maxHeartbeats 1000000 in
theorem w13 (C : CF M) (c62 : ∀ (l : List Str) cap h, l.length < 1000000 → (∀ s ∈ l, s.length < 1000000) → M.ext 62 [.vs (strs l) l.length cap] h = some ⟨.int .i64 (athE l), h, []⟩) (l : List Str) (hs : List Int) (step : Int) (hl : l.length < 1000000) (hL : ∀ s ∈ l, s.length < 1000000) (hh : hs.length < 1000000) :
    Run M 13 [.agg [.vs (strs l) l.length c1, .vs (ints hs) hs.length c2, .int .i64 step]] [] ⟨.int .i64 (verticalE l hs step), [], []⟩ := by
  have q := fun h => c62 l c1 h hl hL
  have lit := C.lit3 [some (.cells [.vs (strs l) l.length c1, .vs (ints hs) hs.length c2, .int .i64 step] 35)]
  have q64t : ∀ e h, M.ext 64 [.bool true, .int .i64 e] h = some ⟨.int .i64 e, h, []⟩ := fun e h => C.c64 true e h
  have q64f : ∀ e h, M.ext 64 [.bool false, .int .i64 e] h = some ⟨.int .i64 0, h, []⟩ := fun e h => C.c64 false e h
  have f1 : ∀ a b c : Int, a ≠ 0 → firstNZ [a, b, c] = a := fun a b c h => by simp [firstNZ, h]
  refine run_of_W (by rw [C.ft]; exact ft13) (by simp) ?_
  unfold b13
  simp only [List.map_cons, List.map_nil, List.getElem?_cons_zero, List.getElem?_cons_succ, List.getElem?_nil, Option.getD_some, Option.getD_none]
  by_cases h0 : athE l = 0
  · rw [h0] at q
    by_cases hz : hs.length = 0
    · have ql := lit 0 12 0 12 rfl
      repeat' first | apply W.seq | apply SQn | apply W.region | apply WO.nil | apply W.block | apply W.ret | apply W.exit | apply W.skip | apply SQr | apply SQe | apply BQn | apply BQr | apply BQe | (apply BQo; exact rfl) | apply LQe | apply LQr | (apply W.drawro; exact rfl) | apply W.draw | apply WD.nil | (apply WD.gT; exact rfl) | (apply WD.gF; exact rfl) | (apply WD.sT; exact rfl) | (apply WD.sF; exact rfl) | (apply WD.sU; exact rfl) | (apply WD.pure1; exact rfl) | (apply WD.load1; exact rfl; exact rfl; exact rfl) | (apply WD.new1; exact rfl) | (apply WD.clb; exact rfl; exact rfl; exact rfl; exact rfl; all_goals first | (intro h; exact absurd h (by decide)) | intro _) | (apply WD.cl0; exact rfl; exact rfl; exact rfl; exact rfl) | (apply WD.cl1; exact rfl; exact rfl; exact rfl; exact rfl) | (apply W.condT; exact rfl) | (apply W.condF; exact rfl) | (apply W.cond; exact rfl; all_goals intro _) | (apply WO.gtr; exact rfl; exact rfl; all_goals first | (intro _; exfalso; omega) | intro _) | (apply WO.eql; exact rfl; exact rfl; all_goals first | (intro _; exfalso; omega) | intro _) | (apply WO.neq; exact rfl; exact rfl; all_goals first | (intro _; exfalso; omega) | intro _) | (apply WO.remp; exact rfl; exact rfl; omega; intro _ _) | (apply WO.remn; exact rfl; exact rfl; omega; intro _ _) | (apply WO.rem; exact rfl; exact rfl; omega) | (apply WO.cll; exact rfl; exact rfl; first | exact q _ | exact q64t _ _ | exact q64f _ _ | exact ql) | (apply WD.cl0; exact rfl; exact rfl; exact rfl; first | exact q _ | exact q64t _ _ | exact q64f _ _ | exact ql) | (apply WO.seql; exact rfl; exact rfl; all_goals first | (intro h; exact absurd h (by decide)) | (intro h; exact absurd rfl h) | (intro h; contradiction) | intro _) | (apply WO.sneq; exact rfl; exact rfl; all_goals first | (intro h; exact absurd h (by decide)) | (intro h; exact absurd rfl h) | (intro h; contradiction) | intro _) | (apply WO.clb; exact rfl; exact rfl; exact rfl; all_goals first | (intro h; exact absurd h (by decide)) | intro _) | (apply WO.cll; exact rfl; exact rfl; exact rfl) | (apply WO.hlv; exact rfl; exact rfl; exact rfl) | (apply WO.hpv; exact rfl; exact rfl; exact rfl) | (apply WO.hnv; exact rfl; exact rfl; exact rfl) | (apply WO.pl; exact rfl; exact rfl) | (apply WO.pp; exact rfl; exact rfl)
      all_goals first | (exfalso; omega) | exact ⟨.inr rfl, rfl, _, rfl, congrArg (AV.int .i64) (by unfold verticalE; rw [if_neg (fun h => h h0), if_pos hz]), rfl⟩
    by_cases hm : 24 < hs.length
    · have ql := lit 0 0 5 5 rfl
      repeat' first | apply W.seq | apply SQn | apply W.region | apply WO.nil | apply W.block | apply W.ret | apply W.exit | apply W.skip | apply SQr | apply SQe | apply BQn | apply BQr | apply BQe | (apply BQo; exact rfl) | apply LQe | apply LQr | (apply W.drawro; exact rfl) | apply W.draw | apply WD.nil | (apply WD.gT; exact rfl) | (apply WD.gF; exact rfl) | (apply WD.sT; exact rfl) | (apply WD.sF; exact rfl) | (apply WD.sU; exact rfl) | (apply WD.pure1; exact rfl) | (apply WD.load1; exact rfl; exact rfl; exact rfl) | (apply WD.new1; exact rfl) | (apply WD.clb; exact rfl; exact rfl; exact rfl; exact rfl; all_goals first | (intro h; exact absurd h (by decide)) | intro _) | (apply WD.cl0; exact rfl; exact rfl; exact rfl; exact rfl) | (apply WD.cl1; exact rfl; exact rfl; exact rfl; exact rfl) | (apply W.condT; exact rfl) | (apply W.condF; exact rfl) | (apply W.cond; exact rfl; all_goals intro _) | (apply WO.gtr; exact rfl; exact rfl; all_goals first | (intro _; exfalso; omega) | intro _) | (apply WO.eql; exact rfl; exact rfl; all_goals first | (intro _; exfalso; omega) | intro _) | (apply WO.neq; exact rfl; exact rfl; all_goals first | (intro _; exfalso; omega) | intro _) | (apply WO.remp; exact rfl; exact rfl; omega; intro _ _) | (apply WO.remn; exact rfl; exact rfl; omega; intro _ _) | (apply WO.rem; exact rfl; exact rfl; omega) | (apply WO.cll; exact rfl; exact rfl; first | exact q _ | exact q64t _ _ | exact q64f _ _ | exact ql) | (apply WD.cl0; exact rfl; exact rfl; exact rfl; first | exact q _ | exact q64t _ _ | exact q64f _ _ | exact ql) | (apply WO.seql; exact rfl; exact rfl; all_goals first | (intro h; exact absurd h (by decide)) | (intro h; exact absurd rfl h) | (intro h; contradiction) | intro _) | (apply WO.sneq; exact rfl; exact rfl; all_goals first | (intro h; exact absurd h (by decide)) | (intro h; exact absurd rfl h) | (intro h; contradiction) | intro _) | (apply WO.clb; exact rfl; exact rfl; exact rfl; all_goals first | (intro h; exact absurd h (by decide)) | intro _) | (apply WO.cll; exact rfl; exact rfl; exact rfl) | (apply WO.hlv; exact rfl; exact rfl; exact rfl) | (apply WO.hpv; exact rfl; exact rfl; exact rfl) | (apply WO.hnv; exact rfl; exact rfl; exact rfl) | (apply WO.pl; exact rfl; exact rfl) | (apply WO.pp; exact rfl; exact rfl)
      all_goals first | (exfalso; omega) | exact ⟨.inr rfl, rfl, _, rfl, congrArg (AV.int .i64) (by unfold verticalE; rw [if_neg (fun h => h h0), if_neg hz, if_pos hm]), rfl⟩
    have ql := lit 0 0 0 0 rfl
    have eV : verticalE l hs step = if heightsE 0 hs ≠ 0 then heightsE 0 hs else stepE step := by unfold verticalE; rw [if_neg (fun h => h h0), if_neg hz, if_neg hm]
    rw [eV]
    repeat' first | apply W.seq | apply SQn | apply W.region | apply WO.nil | apply W.block | apply W.ret | apply W.exit | apply W.skip | apply SQr | apply SQe | apply BQn | apply BQr | apply BQe | (apply BQo; exact rfl) | apply LQe | apply LQr | (apply W.drawro; exact rfl) | apply W.draw | apply WD.nil | (apply WD.gT; exact rfl) | (apply WD.gF; exact rfl) | (apply WD.sT; exact rfl) | (apply WD.sF; exact rfl) | (apply WD.sU; exact rfl) | (apply WD.pure1; exact rfl) | (apply WD.load1; exact rfl; exact rfl; exact rfl) | (apply WD.new1; exact rfl) | (apply WD.clb; exact rfl; exact rfl; exact rfl; exact rfl; all_goals first | (intro h; exact absurd h (by decide)) | intro _) | (apply WD.cl0; exact rfl; exact rfl; exact rfl; exact rfl) | (apply WD.cl1; exact rfl; exact rfl; exact rfl; exact rfl) | (apply W.condT; exact rfl) | (apply W.condF; exact rfl) | (apply W.cond; exact rfl; all_goals intro _) | (apply WO.gtr; exact rfl; exact rfl; all_goals first | (intro _; exfalso; omega) | intro _) | (apply WO.eql; exact rfl; exact rfl; all_goals first | (intro _; exfalso; omega) | intro _) | (apply WO.neq; exact rfl; exact rfl; all_goals first | (intro _; exfalso; omega) | intro _) | (apply WO.remp; exact rfl; exact rfl; omega; intro _ _) | (apply WO.remn; exact rfl; exact rfl; omega; intro _ _) | (apply WO.rem; exact rfl; exact rfl; omega) | (apply WO.cll; exact rfl; exact rfl; first | exact q _ | exact q64t _ _ | exact q64f _ _ | exact ql) | (apply WD.cl0; exact rfl; exact rfl; exact rfl; first | exact q _ | exact q64t _ _ | exact q64f _ _ | exact ql) | (apply WO.seql; exact rfl; exact rfl; all_goals first | (intro h; exact absurd h (by decide)) | (intro h; exact absurd rfl h) | (intro h; contradiction) | intro _) | (apply WO.sneq; exact rfl; exact rfl; all_goals first | (intro h; exact absurd h (by decide)) | (intro h; exact absurd rfl h) | (intro h; contradiction) | intro _) | (apply WO.clb; exact rfl; exact rfl; exact rfl; all_goals first | (intro h; exact absurd h (by decide)) | intro _) | (apply WO.cll; exact rfl; exact rfl; exact rfl) | (apply WO.hlv; exact rfl; exact rfl; exact rfl) | (apply WO.hpv; exact rfl; exact rfl; exact rfl) | (apply WO.hnv; exact rfl; exact rfl; exact rfl) | (apply WO.pl; exact rfl; exact rfl) | (apply WO.pp; exact rfl; exact rfl)
    all_goals first | (exfalso; omega) | skip
    refine loop13 C l hs step hh _ hs.length 0 0 _ _ _ _ _ _ (by omega) rfl (fun h a3 a4 a5 a6 lo H wr hb => ?_) (fun h a3 a4 a5 a6 a9 lo H wr => ?_)
    · rw [List.drop_zero] at h
      rw [if_neg (fun h' => h' h)]
      have q63 := C.c63 step 10 1000
      have f2 : ∀ b : Int, firstNZ [3, b] = 3 := fun b => by simp [firstNZ]
      have l3 := fun b => C.lit2 H 3 b 3 (f2 b)
      have l03 := C.lit2 H 0 3 3 rfl
      have l00 := C.lit2 H 0 0 0 rfl
      by_cases ho : outI step 10 1000 = true
      · rw [if_pos ho] at q63
        have ho' := outI_iff.1 ho
        repeat' first | (apply WO.ldb; exact rfl; exact hb; exact rfl) | apply W.seq | apply SQn | apply W.region | apply WO.nil | apply W.block | apply W.ret | apply W.exit | apply W.skip | apply SQr | apply SQe | apply BQn | apply BQr | apply BQe | (apply BQo; exact rfl) | apply LQe | apply LQr | (apply W.drawro; exact rfl) | apply W.draw | apply WD.nil | (apply WD.gT; exact rfl) | (apply WD.gF; exact rfl) | (apply WD.sT; exact rfl) | (apply WD.sF; exact rfl) | (apply WD.sU; exact rfl) | (apply WD.pure1; exact rfl) | (apply WD.load1; exact rfl; exact rfl; exact rfl) | (apply WD.new1; exact rfl) | (apply WD.clb; exact rfl; exact rfl; exact rfl; exact rfl; all_goals first | (intro h; exact absurd h (by decide)) | intro _) | (apply WD.cl0; exact rfl; exact rfl; exact rfl; exact rfl) | (apply WD.cl1; exact rfl; exact rfl; exact rfl; exact rfl) | (apply W.condT; exact rfl) | (apply W.condF; exact rfl) | (apply W.cond; exact rfl; all_goals intro _) | (apply WO.gtr; exact rfl; exact rfl; all_goals first | (intro _; exfalso; omega) | intro _) | (apply WO.eql; exact rfl; exact rfl; all_goals first | (intro _; exfalso; omega) | intro _) | (apply WO.neq; exact rfl; exact rfl; all_goals first | (intro _; exfalso; omega) | intro _) | (apply WO.remp; exact rfl; exact rfl; omega; intro _ _) | (apply WO.remn; exact rfl; exact rfl; omega; intro _ _) | (apply WO.rem; exact rfl; exact rfl; omega) | (apply WO.cll; exact rfl; exact rfl; first | exact q63 _ | exact q64t _ _ | exact q64f _ _ | exact l3 _) | (apply WD.cl0; exact rfl; exact rfl; exact rfl; first | exact q63 _ | exact q64t _ _ | exact q64f _ _ | exact l3 _) | (apply WO.seql; exact rfl; exact rfl; all_goals first | (intro h; exact absurd h (by decide)) | (intro h; exact absurd rfl h) | (intro h; contradiction) | intro _) | (apply WO.sneq; exact rfl; exact rfl; all_goals first | (intro h; exact absurd h (by decide)) | (intro h; exact absurd rfl h) | (intro h; contradiction) | intro _) | (apply WO.clb; exact rfl; exact rfl; exact rfl; all_goals first | (intro h; exact absurd h (by decide)) | intro _) | (apply WO.cll; exact rfl; exact rfl; exact rfl) | (apply WO.hlv; exact rfl; exact rfl; exact rfl) | (apply WO.hpv; exact rfl; exact rfl; exact rfl) | (apply WO.hnv; exact rfl; exact rfl; exact rfl) | (apply WO.pl; exact rfl; exact rfl) | (apply WO.pp; exact rfl; exact rfl)
        all_goals first | exact ⟨.inr rfl, rfl, _, rfl, congrArg (AV.int .i64) (by unfold stepE; rw [if_pos ho']), rfl⟩ | (exfalso; omega)
      · rw [if_neg ho] at q63
        have ho' : ¬ (step < 10 ∨ 1000 < step) := fun h => ho (outI_iff.2 h)
        by_cases hr : step % 10 = 0
        · repeat' first | (apply WO.ldb; exact rfl; exact hb; exact rfl) | apply W.seq | apply SQn | apply W.region | apply WO.nil | apply W.block | apply W.ret | apply W.exit | apply W.skip | apply SQr | apply SQe | apply BQn | apply BQr | apply BQe | (apply BQo; exact rfl) | apply LQe | apply LQr | (apply W.drawro; exact rfl) | apply W.draw | apply WD.nil | (apply WD.gT; exact rfl) | (apply WD.gF; exact rfl) | (apply WD.sT; exact rfl) | (apply WD.sF; exact rfl) | (apply WD.sU; exact rfl) | (apply WD.pure1; exact rfl) | (apply WD.load1; exact rfl; exact rfl; exact rfl) | (apply WD.new1; exact rfl) | (apply WD.clb; exact rfl; exact rfl; exact rfl; exact rfl; all_goals first | (intro h; exact absurd h (by decide)) | intro _) | (apply WD.cl0; exact rfl; exact rfl; exact rfl; exact rfl) | (apply WD.cl1; exact rfl; exact rfl; exact rfl; exact rfl) | (apply W.condT; exact rfl) | (apply W.condF; exact rfl) | (apply W.cond; exact rfl; all_goals intro _) | (apply WO.gtr; exact rfl; exact rfl; all_goals first | (intro _; exfalso; omega) | intro _) | (apply WO.eql; exact rfl; exact rfl; all_goals first | (intro _; exfalso; omega) | intro _) | (apply WO.neq; exact rfl; exact rfl; all_goals first | (intro _; exfalso; omega) | intro _) | (apply WO.remp; exact rfl; exact rfl; omega; intro _ _) | (apply WO.remn; exact rfl; exact rfl; omega; intro _ _) | (apply WO.rem; exact rfl; exact rfl; omega) | (apply WO.cll; exact rfl; exact rfl; first | exact q63 _ | exact q64t _ _ | exact q64f _ _ | exact l00) | (apply WD.cl0; exact rfl; exact rfl; exact rfl; first | exact q63 _ | exact q64t _ _ | exact q64f _ _ | exact l00) | (apply WO.seql; exact rfl; exact rfl; all_goals first | (intro h; exact absurd h (by decide)) | (intro h; exact absurd rfl h) | (intro h; contradiction) | intro _) | (apply WO.sneq; exact rfl; exact rfl; all_goals first | (intro h; exact absurd h (by decide)) | (intro h; exact absurd rfl h) | (intro h; contradiction) | intro _) | (apply WO.clb; exact rfl; exact rfl; exact rfl; all_goals first | (intro h; exact absurd h (by decide)) | intro _) | (apply WO.cll; exact rfl; exact rfl; exact rfl) | (apply WO.hlv; exact rfl; exact rfl; exact rfl) | (apply WO.hpv; exact rfl; exact rfl; exact rfl) | (apply WO.hnv; exact rfl; exact rfl; exact rfl) | (apply WO.pl; exact rfl; exact rfl) | (apply WO.pp; exact rfl; exact rfl)
          all_goals first | (exfalso; omega) | exact ⟨.inr rfl, rfl, _, rfl, congrArg (AV.int .i64) (by unfold stepE; rw [if_neg ho', if_neg (fun h => h hr)]), rfl⟩
        · repeat' first | (apply WO.ldb; exact rfl; exact hb; exact rfl) | apply W.seq | apply SQn | apply W.region | apply WO.nil | apply W.block | apply W.ret | apply W.exit | apply W.skip | apply SQr | apply SQe | apply BQn | apply BQr | apply BQe | (apply BQo; exact rfl) | apply LQe | apply LQr | (apply W.drawro; exact rfl) | apply W.draw | apply WD.nil | (apply WD.gT; exact rfl) | (apply WD.gF; exact rfl) | (apply WD.sT; exact rfl) | (apply WD.sF; exact rfl) | (apply WD.sU; exact rfl) | (apply WD.pure1; exact rfl) | (apply WD.load1; exact rfl; exact rfl; exact rfl) | (apply WD.new1; exact rfl) | (apply WD.clb; exact rfl; exact rfl; exact rfl; exact rfl; all_goals first | (intro h; exact absurd h (by decide)) | intro _) | (apply WD.cl0; exact rfl; exact rfl; exact rfl; exact rfl) | (apply WD.cl1; exact rfl; exact rfl; exact rfl; exact rfl) | (apply W.condT; exact rfl) | (apply W.condF; exact rfl) | (apply W.cond; exact rfl; all_goals intro _) | (apply WO.gtr; exact rfl; exact rfl; all_goals first | (intro _; exfalso; omega) | intro _) | (apply WO.eql; exact rfl; exact rfl; all_goals first | (intro _; exfalso; omega) | intro _) | (apply WO.neq; exact rfl; exact rfl; all_goals first | (intro _; exfalso; omega) | intro _) | (apply WO.remp; exact rfl; exact rfl; omega; intro _ _) | (apply WO.remn; exact rfl; exact rfl; omega; intro _ _) | (apply WO.rem; exact rfl; exact rfl; omega) | (apply WO.cll; exact rfl; exact rfl; first | exact q63 _ | exact q64t _ _ | exact q64f _ _ | exact l03) | (apply WD.cl0; exact rfl; exact rfl; exact rfl; first | exact q63 _ | exact q64t _ _ | exact q64f _ _ | exact l03) | (apply WO.seql; exact rfl; exact rfl; all_goals first | (intro h; exact absurd h (by decide)) | (intro h; exact absurd rfl h) | (intro h; contradiction) | intro _) | (apply WO.sneq; exact rfl; exact rfl; all_goals first | (intro h; exact absurd h (by decide)) | (intro h; exact absurd rfl h) | (intro h; contradiction) | intro _) | (apply WO.clb; exact rfl; exact rfl; exact rfl; all_goals first | (intro h; exact absurd h (by decide)) | intro _) | (apply WO.cll; exact rfl; exact rfl; exact rfl) | (apply WO.hlv; exact rfl; exact rfl; exact rfl) | (apply WO.hpv; exact rfl; exact rfl; exact rfl) | (apply WO.hnv; exact rfl; exact rfl; exact rfl) | (apply WO.pl; exact rfl; exact rfl) | (apply WO.pp; exact rfl; exact rfl)
          all_goals first | (exfalso; omega) | exact ⟨.inr rfl, rfl, _, rfl, congrArg (AV.int .i64) (by unfold stepE; rw [if_neg ho', if_pos hr]), rfl⟩
    · rw [List.drop_zero] at h
      rw [if_pos h]
      repeat' first | apply W.seq | apply SQn | apply W.region | apply WO.nil | apply W.block | apply W.ret | apply W.exit | apply W.skip | apply SQr | apply SQe | apply BQn | apply BQr | apply BQe | (apply BQo; exact rfl) | apply LQe | apply LQr | (apply W.drawro; exact rfl) | apply W.draw | apply WD.nil | (apply WD.gT; exact rfl) | (apply WD.gF; exact rfl) | (apply WD.sT; exact rfl) | (apply WD.sF; exact rfl) | (apply WD.sU; exact rfl) | (apply WD.pure1; exact rfl) | (apply WD.load1; exact rfl; exact rfl; exact rfl) | (apply WD.new1; exact rfl) | (apply WD.clb; exact rfl; exact rfl; exact rfl; exact rfl; all_goals first | (intro h; exact absurd h (by decide)) | intro _) | (apply WD.cl0; exact rfl; exact rfl; exact rfl; exact rfl) | (apply WD.cl1; exact rfl; exact rfl; exact rfl; exact rfl) | (apply W.condT; exact rfl) | (apply W.condF; exact rfl) | (apply W.cond; exact rfl; all_goals intro _) | (apply WO.gtr; exact rfl; exact rfl; all_goals first | (intro _; exfalso; omega) | intro _) | (apply WO.eql; exact rfl; exact rfl; all_goals first | (intro _; exfalso; omega) | intro _) | (apply WO.neq; exact rfl; exact rfl; all_goals first | (intro _; exfalso; omega) | intro _) | (apply WO.remp; exact rfl; exact rfl; omega; intro _ _) | (apply WO.remn; exact rfl; exact rfl; omega; intro _ _) | (apply WO.rem; exact rfl; exact rfl; omega) | (apply WO.seql; exact rfl; exact rfl; all_goals first | (intro h; exact absurd h (by decide)) | (intro h; exact absurd rfl h) | (intro h; contradiction) | intro _) | (apply WO.sneq; exact rfl; exact rfl; all_goals first | (intro h; exact absurd h (by decide)) | (intro h; exact absurd rfl h) | (intro h; contradiction) | intro _) | (apply WO.clb; exact rfl; exact rfl; exact rfl; all_goals first | (intro h; exact absurd h (by decide)) | intro _) | (apply WO.cll; exact rfl; exact rfl; exact rfl) | (apply WO.hlv; exact rfl; exact rfl; exact rfl) | (apply WO.hpv; exact rfl; exact rfl; exact rfl) | (apply WO.hnv; exact rfl; exact rfl; exact rfl) | (apply WO.pl; exact rfl; exact rfl) | (apply WO.pp; exact rfl; exact rfl)
      exact ⟨.inr rfl, rfl, _, rfl, rfl, rfl⟩
  · have e : verticalE l hs step = athE l := by unfold verticalE; rw [if_pos h0]
    rw [e]
    generalize athE l = z at *
    have ql := fun b c => lit z b c z (f1 z b c h0)
    repeat' first | apply W.seq | apply SQn | apply W.region | apply WO.nil | apply W.block | apply W.ret | apply W.exit | apply W.skip | apply SQr | apply SQe | apply BQn | apply BQr | apply BQe | (apply BQo; exact rfl) | apply LQe | apply LQr | (apply W.drawro; exact rfl) | apply W.draw | apply WD.nil | (apply WD.gT; exact rfl) | (apply WD.gF; exact rfl) | (apply WD.sT; exact rfl) | (apply WD.sF; exact rfl) | (apply WD.sU; exact rfl) | (apply WD.pure1; exact rfl) | (apply WD.load1; exact rfl; exact rfl; exact rfl) | (apply WD.new1; exact rfl) | (apply WD.clb; exact rfl; exact rfl; exact rfl; exact rfl; all_goals first | (intro h; exact absurd h (by decide)) | intro _) | (apply WD.cl0; exact rfl; exact rfl; exact rfl; exact rfl) | (apply WD.cl1; exact rfl; exact rfl; exact rfl; exact rfl) | (apply W.condT; exact rfl) | (apply W.condF; exact rfl) | (apply W.cond; exact rfl; all_goals intro _) | (apply WO.gtr; exact rfl; exact rfl; all_goals first | (intro _; exfalso; omega) | intro _) | (apply WO.eql; exact rfl; exact rfl; all_goals first | (intro _; exfalso; omega) | intro _) | (apply WO.neq; exact rfl; exact rfl; all_goals first | (intro _; exfalso; omega) | intro _) | (apply WO.remp; exact rfl; exact rfl; omega; intro _ _) | (apply WO.remn; exact rfl; exact rfl; omega; intro _ _) | (apply WO.rem; exact rfl; exact rfl; omega) | (apply WO.cll; exact rfl; exact rfl; first | exact q _ | exact q64t _ _ | exact q64f _ _ | exact ql _ _) | (apply WD.cl0; exact rfl; exact rfl; exact rfl; first | exact q _ | exact q64t _ _ | exact q64f _ _ | exact ql _ _) | (apply WO.seql; exact rfl; exact rfl; all_goals first | (intro h; exact absurd h (by decide)) | (intro h; exact absurd rfl h) | (intro h; contradiction) | intro _) | (apply WO.sneq; exact rfl; exact rfl; all_goals first | (intro h; exact absurd h (by decide)) | (intro h; exact absurd rfl h) | (intro h; contradiction) | intro _) | (apply WO.clb; exact rfl; exact rfl; exact rfl; all_goals first | (intro h; exact absurd h (by decide)) | intro _) | (apply WO.cll; exact rfl; exact rfl; exact rfl) | (apply WO.hlv; exact rfl; exact rfl; exact rfl) | (apply WO.hpv; exact rfl; exact rfl; exact rfl) | (apply WO.hnv; exact rfl; exact rfl; exact rfl) | (apply WO.pl; exact rfl; exact rfl) | (apply WO.pp; exact rfl; exact rfl)
    all_goals first | (exfalso; omega) | exact ⟨.inr rfl, rfl, _, rfl, rfl, rfl⟩

def lastAt (hs : List Int) (i : Nat) : Int := if i = 0 then 0 else hs[i - 1]!
set_option maxHeartbeats 1000000 in
theorem loop14 (l : List Str) (hs : List Int) (step : Int) (hl : hs.length < 1000000) (a0 a3 : AV) {Q : Ex → StW → Prop} : ∀ (r i : Nat) (a5 : AV) (lo : List (Nat × AV)) (wr : List Nat), i + r = hs.length →
    (heightsE (lastAt hs i) (hs.drop i) = 0 → ∀ a4 a5 lo wr, Q (.exit 0) ⟨⟨[a0, .ptr 0 0, .int .i64 0, a3, a4, a5], lo, [some (.cells [.vs (strs l) l.length c1, .vs (ints hs) hs.length c2, .int .i64 step] 27)], []⟩, wr⟩) →
    (heightsE (lastAt hs i) (hs.drop i) ≠ 0 → ∀ a4 a5 lo wr, Q .ret ⟨⟨[a0, .ptr 0 0, .int .i64 (heightsE (lastAt hs i) (hs.drop i)), a3, a4, a5], lo, [some (.cells [.vs (strs l) l.length c1, .vs (ints hs) hs.length c2, .int .i64 step] 27)], []⟩, wr⟩) →
    W M (.loop b14_0) ⟨⟨[a0, .ptr 0 0, .int .i64 0, a3, .int .i64 i, a5], lo, [some (.cells [.vs (strs l) l.length c1, .vs (ints hs) hs.length c2, .int .i64 step] 27)], []⟩, wr⟩ Q
  | 0, i, a5, lo, wr, hi, h1, h2 => by
    obtain rfl : i = hs.length := by omega
    refine W.loop ?_
    unfold b14_0
    repeat' first | apply W.seq | apply SQn | apply W.region | apply WO.nil | apply W.block | apply W.ret | apply W.exit | apply W.skip | apply SQr | apply SQe | apply BQn | apply BQr | apply BQe | (apply BQo; exact rfl) | apply LQe | apply LQr | (apply W.condT; exact rfl) | (apply W.condF; exact rfl) | (apply W.cond; exact rfl; all_goals intro _) | (apply WO.gT; exact rfl) | (apply WO.gF; exact rfl) | (apply WO.sT; exact rfl) | (apply WO.sF; exact rfl) | (apply WO.sU; exact rfl) | (apply WO.lss; exact rfl; exact rfl; all_goals first | (intro _; exfalso; omega) | intro _) | (apply WO.leq; exact rfl; exact rfl; all_goals first | (intro _; exfalso; omega) | intro _) | (apply WO.gtr; exact rfl; exact rfl; all_goals first | (intro _; exfalso; omega) | intro _) | (apply WO.neq; exact rfl; exact rfl; all_goals first | (intro _; exfalso; omega) | intro _) | (apply WO.pkT; exact rfl; exact rfl) | (apply WO.pkF; exact rfl; exact rfl) | (apply WO.add; exact rfl; exact rfl; omega) | (apply WO.sub; exact rfl; exact rfl; omega) | (apply WO.remp; exact rfl; exact rfl; omega; intro _ _) | (apply WO.remn; exact rfl; exact rfl; omega; intro _ _) | (apply WO.rem; exact rfl; exact rfl; omega) | (apply WO.iav; exact rfl; exact rfl; omega) | (apply WO.ias; exact rfl; exact rfl; omega) | (apply WO.lda; exact rfl; exact fun _ => rfl; (first | omega | (simp only [List.length_set]; omega) | (simp; omega)); decide; exact rfl; case ia => infer_instance) | (apply WO.lsa; exact rfl; (first | exact rfl | assumption | exact at_new | (apply at_old; assumption) | (apply at_put; first | assumption | (simp only [put_length]; assumption))); exact fun _ => rfl; (first | omega | (simp only [List.length_set]; omega) | (simp; omega)); decide; exact rfl; case ia => infer_instance) | (apply WO.ldf; exact rfl; exact fun _ => rfl; (first | omega | (simp only [List.length_set]; omega) | (simp; omega)); decide; exact rfl; case ia => infer_instance) | (apply WO.lsf; exact rfl; (first | exact rfl | assumption | exact at_new | (apply at_old; assumption) | (apply at_put; first | assumption | (simp only [put_length]; assumption))); exact fun _ => rfl; (first | omega | (simp only [List.length_set]; omega) | (simp; omega)); decide; exact rfl; case ia => infer_instance) | (apply WO.sneq; exact rfl; exact rfl; all_goals first | (intro h; exact absurd h (by decide)) | (intro h; exact absurd rfl h) | (intro h; contradiction) | intro _) | (apply WO.hlv; exact rfl; exact rfl; exact rfl) | (apply WO.hpv; exact rfl; exact rfl; exact rfl) | (apply WO.hnv; exact rfl; exact rfl; exact rfl) | (apply WO.pl; exact rfl; exact rfl) | (apply WO.pp; exact rfl; exact rfl)
    exact h1 (by simp [heightsE]) _ _ _ _
  | r + 1, i, a5, lo, wr, hi, h1, h2 => by
    have ei : ((i : Int)).toNat = i := by omega
    have ej : ((i : Int) - 1).toNat = i - 1 := by omega
    have e := heightsE_drop (hs := hs) (last := lastAt hs i) (i := i) (by omega)
    have eN : lastAt hs (i + 1) = hs[i]! := by unfold lastAt; rw [if_neg (by omega), Nat.add_sub_cancel]
    have eL : 0 < i → lastAt hs i = hs[((i : Int) - 1).toNat]! := fun h => by unfold lastAt; rw [if_neg (by omega), ej]
    have eZ : i = 0 → lastAt hs i = 0 := fun h => by unfold lastAt; rw [if_pos h]
    have eH : hs[i]! = hs[((i : Int)).toNat]! := by rw [ei]
    have stop3 : heightE (lastAt hs i) hs[i]! = 3 → ∀ a4 a5 lo wr, Q .ret ⟨⟨[a0, .ptr 0 0, .int .i64 3, a3, a4, a5], lo, [some (.cells [.vs (strs l) l.length c1, .vs (ints hs) hs.length c2, .int .i64 step] 27)], []⟩, wr⟩ := fun h => by
      rw [h, if_neg (by decide)] at e
      rw [e] at h2
      exact h2 (by decide)
    have stop11 : heightE (lastAt hs i) hs[i]! = 11 → ∀ a4 a5 lo wr, Q .ret ⟨⟨[a0, .ptr 0 0, .int .i64 11, a3, a4, a5], lo, [some (.cells [.vs (strs l) l.length c1, .vs (ints hs) hs.length c2, .int .i64 step] 27)], []⟩, wr⟩ := fun h => by
      rw [h, if_neg (by decide)] at e
      rw [e] at h2
      exact h2 (by decide)
    have go : heightE (lastAt hs i) hs[i]! = 0 → ∀ a5 lo wr, LQ M b14_0 Q .normal ⟨⟨[a0, .ptr 0 0, .int .i64 0, a3, .int .i64 ((i : Int) + 1), a5], lo, [some (.cells [.vs (strs l) l.length c1, .vs (ints hs) hs.length c2, .int .i64 step] 27)], []⟩, wr⟩ := fun h a5 lo wr => by
      rw [h, if_pos rfl, ← eN] at e
      rw [e] at h1 h2
      exact LQn (loop14 l hs step hl a0 a3 r (i + 1) _ _ _ (by omega) h1 h2)
    have e3 : (hs[((i : Int)).toNat]! < 10 ∨ 999999 < hs[((i : Int)).toNat]!) ∨ hs[((i : Int)).toNat]! % 10 ≠ 0 → heightE (lastAt hs i) hs[i]! = 3 := fun h => by
      rw [eH]; unfold heightE
      (repeat' split) <;> first | rfl | (exfalso; omega)
    have e11 : ¬ (hs[((i : Int)).toNat]! < 10 ∨ 999999 < hs[((i : Int)).toNat]!) → hs[((i : Int)).toNat]! % 10 = 0 → hs[((i : Int)).toNat]! ≤ lastAt hs i → heightE (lastAt hs i) hs[i]! = 11 := fun h h' h'' => by
      rw [eH]; unfold heightE
      rw [if_neg h, if_neg (fun x => x h'), if_pos h'']
    have e0 : ¬ (hs[((i : Int)).toNat]! < 10 ∨ 999999 < hs[((i : Int)).toNat]!) → hs[((i : Int)).toNat]! % 10 = 0 → ¬ hs[((i : Int)).toNat]! ≤ lastAt hs i → heightE (lastAt hs i) hs[i]! = 0 := fun h h' h'' => by
      rw [eH]; unfold heightE
      rw [if_neg h, if_neg (fun x => x h'), if_neg h'']
    clear e h1 h2 eN
    refine W.loop ?_
    unfold b14_0
    repeat' first | apply W.seq | apply SQn | apply W.region | apply WO.nil | apply W.block | apply W.ret | apply W.exit | apply W.skip | apply SQr | apply SQe | apply BQn | apply BQr | apply BQe | (apply BQo; exact rfl) | apply LQe | apply LQr | (apply W.condT; exact rfl) | (apply W.condF; exact rfl) | (apply W.cond; exact rfl; all_goals intro _) | (apply WO.gT; exact rfl) | (apply WO.gF; exact rfl) | (apply WO.sT; exact rfl) | (apply WO.sF; exact rfl) | (apply WO.sU; exact rfl) | (apply WO.lss; exact rfl; exact rfl; all_goals first | (intro _; exfalso; omega) | intro _) | (apply WO.leq; exact rfl; exact rfl; all_goals first | (intro _; exfalso; omega) | intro _) | (apply WO.gtr; exact rfl; exact rfl; all_goals first | (intro _; exfalso; omega) | intro _) | (apply WO.neq; exact rfl; exact rfl; all_goals first | (intro _; exfalso; omega) | intro _) | (apply WO.pkT; exact rfl; exact rfl) | (apply WO.pkF; exact rfl; exact rfl) | (apply WO.add; exact rfl; exact rfl; omega) | (apply WO.sub; exact rfl; exact rfl; omega) | (apply WO.remp; exact rfl; exact rfl; omega; intro _ _) | (apply WO.remn; exact rfl; exact rfl; omega; intro _ _) | (apply WO.rem; exact rfl; exact rfl; omega) | (apply WO.iav; exact rfl; exact rfl; omega) | (apply WO.ias; exact rfl; exact rfl; omega) | (apply WO.lda; exact rfl; exact fun _ => rfl; (first | omega | (simp only [List.length_set]; omega) | (simp; omega)); decide; exact rfl; case ia => infer_instance) | (apply WO.lsa; exact rfl; (first | exact rfl | assumption | exact at_new | (apply at_old; assumption) | (apply at_put; first | assumption | (simp only [put_length]; assumption))); exact fun _ => rfl; (first | omega | (simp only [List.length_set]; omega) | (simp; omega)); decide; exact rfl; case ia => infer_instance) | (apply WO.ldf; exact rfl; exact fun _ => rfl; (first | omega | (simp only [List.length_set]; omega) | (simp; omega)); decide; exact rfl; case ia => infer_instance) | (apply WO.lsf; exact rfl; (first | exact rfl | assumption | exact at_new | (apply at_old; assumption) | (apply at_put; first | assumption | (simp only [put_length]; assumption))); exact fun _ => rfl; (first | omega | (simp only [List.length_set]; omega) | (simp; omega)); decide; exact rfl; case ia => infer_instance) | (apply WO.sneq; exact rfl; exact rfl; all_goals first | (intro h; exact absurd h (by decide)) | (intro h; exact absurd rfl h) | (intro h; contradiction) | intro _) | (apply WO.hlv; exact rfl; exact rfl; exact rfl) | (apply WO.hpv; exact rfl; exact rfl; exact rfl) | (apply WO.hnv; exact rfl; exact rfl; exact rfl) | (apply WO.pl; exact rfl; exact rfl) | (apply WO.pp; exact rfl; exact rfl)
    all_goals first
      | exact stop3 (e3 (by omega)) _ _ _ _
      | exact stop11 (e11 (by omega) (by omega) (by rw [eL (by omega)]; omega)) _ _ _ _
      | exact go (e0 (by omega) (by omega) (by first | (rw [eL (by omega)]; omega) | (rw [eZ (by omega)]; omega))) _ _ _
theorem w14 (hft : M.FT = FT) (c65 : ∀ (l : List Str) cap h, l.length < 1000000 → (∀ s ∈ l, s.length < 1000000) → M.ext 65 [.vs (strs l) l.length cap] h = some ⟨.int .i64 (athE l), h, []⟩) (l : List Str) (hs : List Int) (step : Int) (hl : l.length < 1000000) (hL : ∀ s ∈ l, s.length < 1000000) (hh : hs.length < 1000000) :
    Run M 14 [.agg [.vs (strs l) l.length c1, .vs (ints hs) hs.length c2, .int .i64 step]] [] ⟨.int .i64 (verticalE l hs step), [], []⟩ := by
  have q := fun h => c65 l c1 h hl hL
  refine run_of_W (by rw [hft]; exact ft14) (by simp) ?_
  unfold b14
  simp only [List.map_cons, List.map_nil, List.getElem?_cons_zero, List.getElem?_cons_succ, List.getElem?_nil, Option.getD_some, Option.getD_none]
  by_cases h0 : athE l = 0
  · rw [h0] at q
    by_cases hz : hs.length = 0
    · repeat' first | apply W.seq | apply SQn | apply W.region | apply WO.nil | apply W.block | apply W.ret | apply W.exit | apply W.skip | apply SQr | apply SQe | apply BQn | apply BQr | apply BQe | (apply BQo; exact rfl) | apply LQe | apply LQr | (apply W.condT; exact rfl) | (apply W.condF; exact rfl) | (apply W.cond; exact rfl; all_goals intro _) | (apply WO.gT; exact rfl) | (apply WO.gF; exact rfl) | (apply WO.sT; exact rfl) | (apply WO.sF; exact rfl) | (apply WO.sU; exact rfl) | (apply WO.lss; exact rfl; exact rfl; all_goals first | (intro _; exfalso; omega) | intro _) | (apply WO.gtr; exact rfl; exact rfl; all_goals first | (intro _; exfalso; omega) | intro _) | (apply WO.eql; exact rfl; exact rfl; all_goals first | (intro _; exfalso; omega) | intro _) | (apply WO.neq; exact rfl; exact rfl; all_goals first | (intro _; exfalso; omega) | intro _) | (apply WO.pkT; exact rfl; exact rfl) | (apply WO.pkF; exact rfl; exact rfl) | (apply WO.remp; exact rfl; exact rfl; omega; intro _ _) | (apply WO.remn; exact rfl; exact rfl; omega; intro _ _) | (apply WO.rem; exact rfl; exact rfl; omega) | (apply WO.cll; exact rfl; exact rfl; first | exact q _) | (apply WO.seql; exact rfl; exact rfl; all_goals first | (intro h; exact absurd h (by decide)) | (intro h; exact absurd rfl h) | (intro h; contradiction) | intro _) | (apply WO.sneq; exact rfl; exact rfl; all_goals first | (intro h; exact absurd h (by decide)) | (intro h; exact absurd rfl h) | (intro h; contradiction) | intro _) | (apply WO.clb; exact rfl; exact rfl; exact rfl; all_goals first | (intro h; exact absurd h (by decide)) | intro _) | (apply WO.cll; exact rfl; exact rfl; exact rfl) | (apply WO.hlv; exact rfl; exact rfl; exact rfl) | (apply WO.hpv; exact rfl; exact rfl; exact rfl) | (apply WO.hnv; exact rfl; exact rfl; exact rfl) | (apply WO.pl; exact rfl; exact rfl) | (apply WO.pp; exact rfl; exact rfl)
      all_goals first | (exfalso; omega) | exact ⟨.inr rfl, rfl, _, rfl, congrArg (AV.int .i64) (by unfold verticalE; rw [if_neg (fun h => h h0), if_pos hz]), rfl⟩
    by_cases hm : 24 < hs.length
    · repeat' first | apply W.seq | apply SQn | apply W.region | apply WO.nil | apply W.block | apply W.ret | apply W.exit | apply W.skip | apply SQr | apply SQe | apply BQn | apply BQr | apply BQe | (apply BQo; exact rfl) | apply LQe | apply LQr | (apply W.condT; exact rfl) | (apply W.condF; exact rfl) | (apply W.cond; exact rfl; all_goals intro _) | (apply WO.gT; exact rfl) | (apply WO.gF; exact rfl) | (apply WO.sT; exact rfl) | (apply WO.sF; exact rfl) | (apply WO.sU; exact rfl) | (apply WO.lss; exact rfl; exact rfl; all_goals first | (intro _; exfalso; omega) | intro _) | (apply WO.gtr; exact rfl; exact rfl; all_goals first | (intro _; exfalso; omega) | intro _) | (apply WO.eql; exact rfl; exact rfl; all_goals first | (intro _; exfalso; omega) | intro _) | (apply WO.neq; exact rfl; exact rfl; all_goals first | (intro _; exfalso; omega) | intro _) | (apply WO.pkT; exact rfl; exact rfl) | (apply WO.pkF; exact rfl; exact rfl) | (apply WO.remp; exact rfl; exact rfl; omega; intro _ _) | (apply WO.remn; exact rfl; exact rfl; omega; intro _ _) | (apply WO.rem; exact rfl; exact rfl; omega) | (apply WO.cll; exact rfl; exact rfl; first | exact q _) | (apply WO.seql; exact rfl; exact rfl; all_goals first | (intro h; exact absurd h (by decide)) | (intro h; exact absurd rfl h) | (intro h; contradiction) | intro _) | (apply WO.sneq; exact rfl; exact rfl; all_goals first | (intro h; exact absurd h (by decide)) | (intro h; exact absurd rfl h) | (intro h; contradiction) | intro _) | (apply WO.clb; exact rfl; exact rfl; exact rfl; all_goals first | (intro h; exact absurd h (by decide)) | intro _) | (apply WO.cll; exact rfl; exact rfl; exact rfl) | (apply WO.hlv; exact rfl; exact rfl; exact rfl) | (apply WO.hpv; exact rfl; exact rfl; exact rfl) | (apply WO.hnv; exact rfl; exact rfl; exact rfl) | (apply WO.pl; exact rfl; exact rfl) | (apply WO.pp; exact rfl; exact rfl)
      all_goals first | (exfalso; omega) | exact ⟨.inr rfl, rfl, _, rfl, congrArg (AV.int .i64) (by unfold verticalE; rw [if_neg (fun h => h h0), if_neg hz, if_pos hm]), rfl⟩
    have eV : verticalE l hs step = if heightsE 0 hs ≠ 0 then heightsE 0 hs else stepE step := by unfold verticalE; rw [if_neg (fun h => h h0), if_neg hz, if_neg hm]
    rw [eV]
    repeat' first | apply W.seq | apply SQn | apply W.region | apply WO.nil | apply W.block | apply W.ret | apply W.exit | apply W.skip | apply SQr | apply SQe | apply BQn | apply BQr | apply BQe | (apply BQo; exact rfl) | apply LQe | apply LQr | (apply W.condT; exact rfl) | (apply W.condF; exact rfl) | (apply W.cond; exact rfl; all_goals intro _) | (apply WO.gT; exact rfl) | (apply WO.gF; exact rfl) | (apply WO.sT; exact rfl) | (apply WO.sF; exact rfl) | (apply WO.sU; exact rfl) | (apply WO.lss; exact rfl; exact rfl; all_goals first | (intro _; exfalso; omega) | intro _) | (apply WO.gtr; exact rfl; exact rfl; all_goals first | (intro _; exfalso; omega) | intro _) | (apply WO.eql; exact rfl; exact rfl; all_goals first | (intro _; exfalso; omega) | intro _) | (apply WO.neq; exact rfl; exact rfl; all_goals first | (intro _; exfalso; omega) | intro _) | (apply WO.pkT; exact rfl; exact rfl) | (apply WO.pkF; exact rfl; exact rfl) | (apply WO.remp; exact rfl; exact rfl; omega; intro _ _) | (apply WO.remn; exact rfl; exact rfl; omega; intro _ _) | (apply WO.rem; exact rfl; exact rfl; omega) | (apply WO.cll; exact rfl; exact rfl; first | exact q _) | (apply WO.seql; exact rfl; exact rfl; all_goals first | (intro h; exact absurd h (by decide)) | (intro h; exact absurd rfl h) | (intro h; contradiction) | intro _) | (apply WO.sneq; exact rfl; exact rfl; all_goals first | (intro h; exact absurd h (by decide)) | (intro h; exact absurd rfl h) | (intro h; contradiction) | intro _) | (apply WO.clb; exact rfl; exact rfl; exact rfl; all_goals first | (intro h; exact absurd h (by decide)) | intro _) | (apply WO.cll; exact rfl; exact rfl; exact rfl) | (apply WO.hlv; exact rfl; exact rfl; exact rfl) | (apply WO.hpv; exact rfl; exact rfl; exact rfl) | (apply WO.hnv; exact rfl; exact rfl; exact rfl) | (apply WO.pl; exact rfl; exact rfl) | (apply WO.pp; exact rfl; exact rfl)
    all_goals first | (exfalso; omega) | skip
    refine loop14 l hs step hh _ _ hs.length 0 _ _ _ (by omega) (fun h a4 a5 lo wr => ?_) (fun h a4 a5 lo wr => ?_)
    · rw [List.drop_zero, show lastAt hs 0 = 0 from rfl] at h
      rw [if_neg (fun h' => h' h)]
      repeat' first | apply W.seq | apply SQn | apply W.region | apply WO.nil | apply W.block | apply W.ret | apply W.exit | apply W.skip | apply SQr | apply SQe | apply BQn | apply BQr | apply BQe | (apply BQo; exact rfl) | apply LQe | apply LQr | (apply W.condT; exact rfl) | (apply W.condF; exact rfl) | (apply W.cond; exact rfl; all_goals intro _) | (apply WO.gT; exact rfl) | (apply WO.gF; exact rfl) | (apply WO.sT; exact rfl) | (apply WO.sF; exact rfl) | (apply WO.sU; exact rfl) | (apply WO.lss; exact rfl; exact rfl; all_goals first | (intro _; exfalso; omega) | intro _) | (apply WO.gtr; exact rfl; exact rfl; all_goals first | (intro _; exfalso; omega) | intro _) | (apply WO.eql; exact rfl; exact rfl; all_goals first | (intro _; exfalso; omega) | intro _) | (apply WO.neq; exact rfl; exact rfl; all_goals first | (intro _; exfalso; omega) | intro _) | (apply WO.pkT; exact rfl; exact rfl) | (apply WO.pkF; exact rfl; exact rfl) | (apply WO.remp; exact rfl; exact rfl; omega; intro _ _) | (apply WO.remn; exact rfl; exact rfl; omega; intro _ _) | (apply WO.rem; exact rfl; exact rfl; omega) | (apply WO.seql; exact rfl; exact rfl; all_goals first | (intro h; exact absurd h (by decide)) | (intro h; exact absurd rfl h) | (intro h; contradiction) | intro _) | (apply WO.sneq; exact rfl; exact rfl; all_goals first | (intro h; exact absurd h (by decide)) | (intro h; exact absurd rfl h) | (intro h; contradiction) | intro _) | (apply WO.clb; exact rfl; exact rfl; exact rfl; all_goals first | (intro h; exact absurd h (by decide)) | intro _) | (apply WO.cll; exact rfl; exact rfl; exact rfl) | (apply WO.hlv; exact rfl; exact rfl; exact rfl) | (apply WO.hpv; exact rfl; exact rfl; exact rfl) | (apply WO.hnv; exact rfl; exact rfl; exact rfl) | (apply WO.pl; exact rfl; exact rfl) | (apply WO.pp; exact rfl; exact rfl)
      all_goals exact ⟨.inr rfl, rfl, _, rfl, congrArg (AV.int .i64) (by unfold stepE; (repeat' split) <;> first | rfl | (exfalso; omega)), rfl⟩
    · rw [List.drop_zero, show lastAt hs 0 = 0 from rfl] at h
      rw [if_pos h]
      repeat' first | apply W.seq | apply SQn | apply W.region | apply WO.nil | apply W.block | apply W.ret | apply W.exit | apply W.skip | apply SQr | apply SQe | apply BQn | apply BQr | apply BQe | (apply BQo; exact rfl) | apply LQe | apply LQr | (apply W.condT; exact rfl) | (apply W.condF; exact rfl) | (apply W.cond; exact rfl; all_goals intro _) | (apply WO.gT; exact rfl) | (apply WO.gF; exact rfl) | (apply WO.sT; exact rfl) | (apply WO.sF; exact rfl) | (apply WO.sU; exact rfl) | (apply WO.lss; exact rfl; exact rfl; all_goals first | (intro _; exfalso; omega) | intro _) | (apply WO.gtr; exact rfl; exact rfl; all_goals first | (intro _; exfalso; omega) | intro _) | (apply WO.eql; exact rfl; exact rfl; all_goals first | (intro _; exfalso; omega) | intro _) | (apply WO.neq; exact rfl; exact rfl; all_goals first | (intro _; exfalso; omega) | intro _) | (apply WO.pkT; exact rfl; exact rfl) | (apply WO.pkF; exact rfl; exact rfl) | (apply WO.remp; exact rfl; exact rfl; omega; intro _ _) | (apply WO.remn; exact rfl; exact rfl; omega; intro _ _) | (apply WO.rem; exact rfl; exact rfl; omega) | (apply WO.seql; exact rfl; exact rfl; all_goals first | (intro h; exact absurd h (by decide)) | (intro h; exact absurd rfl h) | (intro h; contradiction) | intro _) | (apply WO.sneq; exact rfl; exact rfl; all_goals first | (intro h; exact absurd h (by decide)) | (intro h; exact absurd rfl h) | (intro h; contradiction) | intro _) | (apply WO.clb; exact rfl; exact rfl; exact rfl; all_goals first | (intro h; exact absurd h (by decide)) | intro _) | (apply WO.cll; exact rfl; exact rfl; exact rfl) | (apply WO.hlv; exact rfl; exact rfl; exact rfl) | (apply WO.hpv; exact rfl; exact rfl; exact rfl) | (apply WO.hnv; exact rfl; exact rfl; exact rfl) | (apply WO.pl; exact rfl; exact rfl) | (apply WO.pp; exact rfl; exact rfl)
      exact ⟨.inr rfl, rfl, _, rfl, rfl, rfl⟩
  · have e : verticalE l hs step = athE l := by unfold verticalE; rw [if_pos h0]
    rw [e]
    generalize athE l = z at *
    repeat' first | apply W.seq | apply SQn | apply W.region | apply WO.nil | apply W.block | apply W.ret | apply W.exit | apply W.skip | apply SQr | apply SQe | apply BQn | apply BQr | apply BQe | (apply BQo; exact rfl) | apply LQe | apply LQr | (apply W.condT; exact rfl) | (apply W.condF; exact rfl) | (apply W.cond; exact rfl; all_goals intro _) | (apply WO.gT; exact rfl) | (apply WO.gF; exact rfl) | (apply WO.sT; exact rfl) | (apply WO.sF; exact rfl) | (apply WO.sU; exact rfl) | (apply WO.lss; exact rfl; exact rfl; all_goals first | (intro _; exfalso; omega) | intro _) | (apply WO.gtr; exact rfl; exact rfl; all_goals first | (intro _; exfalso; omega) | intro _) | (apply WO.eql; exact rfl; exact rfl; all_goals first | (intro _; exfalso; omega) | intro _) | (apply WO.neq; exact rfl; exact rfl; all_goals first | (intro _; exfalso; omega) | intro _) | (apply WO.pkT; exact rfl; exact rfl) | (apply WO.pkF; exact rfl; exact rfl) | (apply WO.remp; exact rfl; exact rfl; omega; intro _ _) | (apply WO.remn; exact rfl; exact rfl; omega; intro _ _) | (apply WO.rem; exact rfl; exact rfl; omega) | (apply WO.cll; exact rfl; exact rfl; first | exact q _) | (apply WO.seql; exact rfl; exact rfl; all_goals first | (intro h; exact absurd h (by decide)) | (intro h; exact absurd rfl h) | (intro h; contradiction) | intro _) | (apply WO.sneq; exact rfl; exact rfl; all_goals first | (intro h; exact absurd h (by decide)) | (intro h; exact absurd rfl h) | (intro h; contradiction) | intro _) | (apply WO.clb; exact rfl; exact rfl; exact rfl; all_goals first | (intro h; exact absurd h (by decide)) | intro _) | (apply WO.cll; exact rfl; exact rfl; exact rfl) | (apply WO.hlv; exact rfl; exact rfl; exact rfl) | (apply WO.hpv; exact rfl; exact rfl; exact rfl) | (apply WO.hnv; exact rfl; exact rfl; exact rfl) | (apply WO.pl; exact rfl; exact rfl) | (apply WO.pp; exact rfl; exact rfl)
    exact ⟨.inr rfl, rfl, _, rfl, rfl, rfl⟩
end Go.Ab.Ch6


/-
  Own work: chapter 6: the law FieldChecks.
-/
namespace Go.Ab.Ch6
variable {M : Mach}

/-- What FieldChecks calls. -/
structure C3 (M : Mach) : Prop where
  ft : M.FT = FT
  c10 : ∀ h, M.ext 10 [] h = some ⟨.bool true, h, []⟩
  c9 : ∀ (l : List Str) cap h, M.ext 9 [.vs (strs l) l.length cap] h = some ⟨.bool (shortN l), h, []⟩
  c11 : ∀ (l : List Str) cap t f m h, l.length < 1000000 → (∀ s ∈ l, s.length < 1000000) → M.ext 11 [.agg [.vs (strs l) l.length cap, .int .i64 t, .int .i64 f, .int .i64 m]] h = some ⟨.int .i64 (contestE l t f m), h, []⟩
  c12 : ∀ (l : List Str) cap t f m h, l.length < 1000000 → (∀ s ∈ l, s.length < 1000000) → M.ext 12 [.agg [.vs (strs l) l.length cap, .int .i64 t, .int .i64 f, .int .i64 m]] h = some ⟨.int .i64 (contestE l t f m), h, []⟩
  c13 : ∀ (l : List Str) (hs : List Int) step c1 c2 h, l.length < 1000000 → (∀ s ∈ l, s.length < 1000000) → hs.length < 1000000 → M.ext 13 [.agg [.vs (strs l) l.length c1, .vs (ints hs) hs.length c2, .int .i64 step]] h = some ⟨.int .i64 (verticalE l hs step), h, []⟩
  c14 : ∀ (l : List Str) (hs : List Int) step c1 c2 h, l.length < 1000000 → (∀ s ∈ l, s.length < 1000000) → hs.length < 1000000 → M.ext 14 [.agg [.vs (strs l) l.length c1, .vs (ints hs) hs.length c2, .int .i64 step]] h = some ⟨.int .i64 (verticalE l hs step), h, []⟩

theorem short_names {l : List Str} (h : shortN l = true) : l.length < 1000000 ∧ ∀ s ∈ l, s.length < 1000000 := by
  unfold shortN at h
  rw [Bool.and_eq_true, decide_eq_true_eq, List.all_eq_true] at h
  refine ⟨by omega, fun s hs => ?_⟩
  have := of_decide_eq_true (h.2 s hs)
  omega
set_option maxHeartbeats 1000000 in
theorem w3 (C : C3 M) (l l' : List Str) (t f m step : Int) (hs : List Int) : Run M 3 [.agg [.vs (strs l) l.length none, .int .i64 t, .int .i64 f, .int .i64 m], .agg [.vs (strs l') l'.length none, .vs (ints hs) hs.length none, .int .i64 step]] [] ⟨.bool true, [], []⟩ := by
  have hEnd : ∀ s : StW, s.s.dfs = [] → s.s.pe[4]? = some (.bool true) → ((fun (e : Ex) (s : StW) => (e = .normal ∨ e = .ret) ∧ s.s.dfs = [] ∧ ∃ vs, resultsA s.s [.var (.p 4)] = some vs ∧ tupA vs = .bool true ∧ (if (AV.bool true).top ≤ 0 then [] else s.s.hp) = []) Ex.ret s) := fun s h1 h2 =>
    ⟨.inr rfl, h1, [.bool true], by simp only [resultsA, St.opd, h2], rfl, rfl⟩
  have q10 := C.c10
  have q9 := fun h => C.c9 l none h
  have q9' := fun h => C.c9 l' none h
  refine run_of_W (by rw [C.ft]; exact ft3) (by simp) ?_
  unfold b3
  simp only [List.map_cons, List.map_nil, List.getElem?_cons_zero, List.getElem?_cons_succ, List.getElem?_nil, Option.getD_some, Option.getD_none]
  cases h1 : shortN l with
  | false =>
    rw [h1] at q9
    repeat' first | apply W.seq | apply SQn | apply W.region | apply WO.nil | apply W.block | apply W.ret | apply W.exit | apply W.skip | apply SQr | apply SQe | apply BQn | apply BQr | apply BQe | (apply BQo; exact rfl) | apply LQe | apply LQr | (apply W.drawro; exact rfl) | apply W.draw | apply WD.nil | (apply WD.gT; exact rfl) | (apply WD.gF; exact rfl) | (apply WD.sT; exact rfl) | (apply WD.sF; exact rfl) | (apply WD.sU; exact rfl) | (apply WD.pure1; exact rfl) | (apply WD.load1; exact rfl; exact rfl; exact rfl) | (apply WD.new1; exact rfl) | (apply WD.clb; exact rfl; exact rfl; exact rfl; exact rfl; all_goals first | (intro h; exact absurd h (by decide)) | intro _) | (apply WD.cl0; exact rfl; exact rfl; exact rfl; exact rfl) | (apply WD.cl1; exact rfl; exact rfl; exact rfl; exact rfl) | (apply W.condT; exact rfl) | (apply W.condF; exact rfl) | (apply W.cond; exact rfl; all_goals intro _) | (apply WO.gT; exact rfl) | (apply WO.gF; exact rfl) | (apply WO.sT; exact rfl) | (apply WO.sF; exact rfl) | (apply WO.sU; exact rfl) | (apply WO.gtr; exact rfl; exact rfl; all_goals first | (intro _; exfalso; omega) | intro _) | (apply WO.eql; exact rfl; exact rfl; all_goals first | (intro _; exfalso; omega) | intro _) | (apply WO.pkT; exact rfl; exact rfl) | (apply WO.pkF; exact rfl; exact rfl) | (apply WO.cll; exact rfl; exact rfl; first | exact q10 _ | exact q9 _) | (apply WO.seql; exact rfl; exact rfl; all_goals first | (intro h; exact absurd h (by decide)) | (intro h; exact absurd rfl h) | (intro h; contradiction) | intro _) | (apply WO.clb; exact rfl; exact rfl; exact rfl; all_goals first | (intro h; exact absurd h (by decide)) | intro _) | (apply WO.cll; exact rfl; exact rfl; exact rfl) | (apply WO.hlv; exact rfl; exact rfl; exact rfl) | (apply WO.hpv; exact rfl; exact rfl; exact rfl) | (apply WO.hnv; exact rfl; exact rfl; exact rfl) | (apply WO.pl; exact rfl; exact rfl) | (apply WO.pp; exact rfl; exact rfl)
    all_goals exact hEnd _ rfl rfl
  | true =>
    rw [h1] at q9
    cases h2 : shortN l' with
    | false =>
      rw [h2] at q9'
      repeat' first | apply W.seq | apply SQn | apply W.region | apply WO.nil | apply W.block | apply W.ret | apply W.exit | apply W.skip | apply SQr | apply SQe | apply BQn | apply BQr | apply BQe | (apply BQo; exact rfl) | apply LQe | apply LQr | (apply W.drawro; exact rfl) | apply W.draw | apply WD.nil | (apply WD.gT; exact rfl) | (apply WD.gF; exact rfl) | (apply WD.sT; exact rfl) | (apply WD.sF; exact rfl) | (apply WD.sU; exact rfl) | (apply WD.pure1; exact rfl) | (apply WD.load1; exact rfl; exact rfl; exact rfl) | (apply WD.new1; exact rfl) | (apply WD.clb; exact rfl; exact rfl; exact rfl; exact rfl; all_goals first | (intro h; exact absurd h (by decide)) | intro _) | (apply WD.cl0; exact rfl; exact rfl; exact rfl; exact rfl) | (apply WD.cl1; exact rfl; exact rfl; exact rfl; exact rfl) | (apply W.condT; exact rfl) | (apply W.condF; exact rfl) | (apply W.cond; exact rfl; all_goals intro _) | (apply WO.gT; exact rfl) | (apply WO.gF; exact rfl) | (apply WO.sT; exact rfl) | (apply WO.sF; exact rfl) | (apply WO.sU; exact rfl) | (apply WO.gtr; exact rfl; exact rfl; all_goals first | (intro _; exfalso; omega) | intro _) | (apply WO.eql; exact rfl; exact rfl; all_goals first | (intro _; exfalso; omega) | intro _) | (apply WO.pkT; exact rfl; exact rfl) | (apply WO.pkF; exact rfl; exact rfl) | (apply WO.cll; exact rfl; exact rfl; first | exact q10 _ | exact q9 _ | exact q9' _) | (apply WO.seql; exact rfl; exact rfl; all_goals first | (intro h; exact absurd h (by decide)) | (intro h; exact absurd rfl h) | (intro h; contradiction) | intro _) | (apply WO.clb; exact rfl; exact rfl; exact rfl; all_goals first | (intro h; exact absurd h (by decide)) | intro _) | (apply WO.cll; exact rfl; exact rfl; exact rfl) | (apply WO.hlv; exact rfl; exact rfl; exact rfl) | (apply WO.hpv; exact rfl; exact rfl; exact rfl) | (apply WO.hnv; exact rfl; exact rfl; exact rfl) | (apply WO.pl; exact rfl; exact rfl) | (apply WO.pp; exact rfl; exact rfl)
      all_goals exact hEnd _ rfl rfl
    | true =>
      rw [h2] at q9'
      by_cases h3 : 27 < hs.length
      · repeat' first | apply W.seq | apply SQn | apply W.region | apply WO.nil | apply W.block | apply W.ret | apply W.exit | apply W.skip | apply SQr | apply SQe | apply BQn | apply BQr | apply BQe | (apply BQo; exact rfl) | apply LQe | apply LQr | (apply W.drawro; exact rfl) | apply W.draw | apply WD.nil | (apply WD.gT; exact rfl) | (apply WD.gF; exact rfl) | (apply WD.sT; exact rfl) | (apply WD.sF; exact rfl) | (apply WD.sU; exact rfl) | (apply WD.pure1; exact rfl) | (apply WD.load1; exact rfl; exact rfl; exact rfl) | (apply WD.new1; exact rfl) | (apply WD.clb; exact rfl; exact rfl; exact rfl; exact rfl; all_goals first | (intro h; exact absurd h (by decide)) | intro _) | (apply WD.cl0; exact rfl; exact rfl; exact rfl; exact rfl) | (apply WD.cl1; exact rfl; exact rfl; exact rfl; exact rfl) | (apply W.condT; exact rfl) | (apply W.condF; exact rfl) | (apply W.cond; exact rfl; all_goals intro _) | (apply WO.gT; exact rfl) | (apply WO.gF; exact rfl) | (apply WO.sT; exact rfl) | (apply WO.sF; exact rfl) | (apply WO.sU; exact rfl) | (apply WO.gtr; exact rfl; exact rfl; all_goals first | (intro _; exfalso; omega) | intro _) | (apply WO.eql; exact rfl; exact rfl; all_goals first | (intro _; exfalso; omega) | intro _) | (apply WO.pkT; exact rfl; exact rfl) | (apply WO.pkF; exact rfl; exact rfl) | (apply WO.cll; exact rfl; exact rfl; first | exact q10 _ | exact q9 _ | exact q9' _) | (apply WO.seql; exact rfl; exact rfl; all_goals first | (intro h; exact absurd h (by decide)) | (intro h; exact absurd rfl h) | (intro h; contradiction) | intro _) | (apply WO.clb; exact rfl; exact rfl; exact rfl; all_goals first | (intro h; exact absurd h (by decide)) | intro _) | (apply WO.cll; exact rfl; exact rfl; exact rfl) | (apply WO.hlv; exact rfl; exact rfl; exact rfl) | (apply WO.hpv; exact rfl; exact rfl; exact rfl) | (apply WO.hnv; exact rfl; exact rfl; exact rfl) | (apply WO.pl; exact rfl; exact rfl) | (apply WO.pp; exact rfl; exact rfl)
        all_goals exact hEnd _ rfl rfl
      · obtain ⟨a1, a2⟩ := short_names h1
        obtain ⟨b1, b2⟩ := short_names h2
        have q11 := fun h => C.c11 l none t f m h a1 a2
        have q12 := fun h => C.c12 l none t f m h a1 a2
        have q13 := fun h => C.c13 l' hs step none none h b1 b2 (by omega)
        have q14 := fun h => C.c14 l' hs step none none h b1 b2 (by omega)
        generalize contestE l t f m = x at *
        generalize verticalE l' hs step = y at *
        repeat' first | apply W.seq | apply SQn | apply W.region | apply WO.nil | apply W.block | apply W.ret | apply W.exit | apply W.skip | apply SQr | apply SQe | apply BQn | apply BQr | apply BQe | (apply BQo; exact rfl) | apply LQe | apply LQr | (apply W.drawro; exact rfl) | apply W.draw | apply WD.nil | (apply WD.gT; exact rfl) | (apply WD.gF; exact rfl) | (apply WD.sT; exact rfl) | (apply WD.sF; exact rfl) | (apply WD.sU; exact rfl) | (apply WD.pure1; exact rfl) | (apply WD.load1; exact rfl; exact rfl; exact rfl) | (apply WD.new1; exact rfl) | (apply WD.clb; exact rfl; exact rfl; exact rfl; exact rfl; all_goals first | (intro h; exact absurd h (by decide)) | intro _) | (apply WD.cl0; exact rfl; exact rfl; exact rfl; exact rfl) | (apply WD.cl1; exact rfl; exact rfl; exact rfl; exact rfl) | (apply W.condT; exact rfl) | (apply W.condF; exact rfl) | (apply W.cond; exact rfl; all_goals intro _) | (apply WO.gT; exact rfl) | (apply WO.gF; exact rfl) | (apply WO.sT; exact rfl) | (apply WO.sF; exact rfl) | (apply WO.sU; exact rfl) | (apply WO.gtr; exact rfl; exact rfl; all_goals first | (intro _; exfalso; omega) | intro _) | (apply WO.eql; exact rfl; exact rfl; all_goals first | (intro _; exfalso; omega) | intro _) | (apply WO.pkT; exact rfl; exact rfl) | (apply WO.pkF; exact rfl; exact rfl) | (apply WO.cll; exact rfl; exact rfl; first | exact q10 _ | exact q9 _ | exact q9' _ | exact q11 _ | exact q12 _ | exact q13 _ | exact q14 _) | (apply WD.cl0; exact rfl; exact rfl; exact rfl; first | exact q10 _ | exact q9 _ | exact q9' _ | exact q11 _ | exact q12 _ | exact q13 _ | exact q14 _) | (apply WO.seql; exact rfl; exact rfl; all_goals first | (intro h; exact absurd h (by decide)) | (intro h; exact absurd rfl h) | (intro h; contradiction) | intro _) | (apply WO.clb; exact rfl; exact rfl; exact rfl; all_goals first | (intro h; exact absurd h (by decide)) | intro _) | (apply WO.cll; exact rfl; exact rfl; exact rfl) | (apply WO.hlv; exact rfl; exact rfl; exact rfl) | (apply WO.hpv; exact rfl; exact rfl; exact rfl) | (apply WO.hnv; exact rfl; exact rfl; exact rfl) | (apply WO.pl; exact rfl; exact rfl) | (apply WO.pp; exact rfl; exact rfl)
        all_goals exact hEnd _ rfl rfl
end Go.Ab.Ch6


/-
  Own work: the contracts of FieldChecks as a table.
-/
namespace Go.Ab.Ch6
open Go.Proofs

def shortL (l : List Str) : Bool := l.all fun s => decide (s.length < 1000000)
theorem shortL_mem {l : List Str} (h : shortL l = true) : ∀ s ∈ l, s.length < 1000000 := fun s hs => by
  have := List.all_eq_true.1 h s hs
  simpa using this
theorem shortL_of {l : List Str} (h : ∀ s ∈ l, s.length < 1000000) : shortL l = true := by
  rw [shortL, List.all_eq_true]
  intro s hs
  simpa using h s hs

def specAwake : Spec := spec0 [] (.bool true)
theorem awake10 : SpecOK Tryz.prog gl 10 specAwake := spec0_ok gl_top rfl rfl oAwake
def specWhen : Spec := fun
  | [.bool t, .int .i64 e], h => some ⟨.int .i64 (if t then e else 0), h, []⟩
  | _, _ => none
theorem when64 : SpecOK Tryz.prog gl 64 specWhen := by
  intro xs h r hq
  unfold specWhen at hq
  split at hq
  · cases hq
    exact ent_run0 seat tab_nil (w64 (M := mach Tryz.prog FT []) mach_ft _ _) (FrL.same rfl) rfl (.inl rfl)
  · cases hq
def specRange : Spec := fun
  | [.int .i64 x, .int .i64 lo, .int .i64 hi], h => some ⟨.int .i64 (if outI x lo hi then 3 else 0), h, []⟩
  | _, _ => none
theorem range63 : SpecOK Tryz.prog gl 63 specRange := by
  intro xs h r hq
  unfold specRange at hq
  split at hq
  · cases hq
    exact ent_run0 seat (T := [(64, specWhen)]) (tab_cons when64 tab_nil) (w63 mach_ft (fun _ _ _ => by rw [mach_ext]; rfl) _ _ _) (FrL.same rfl) rfl (.inl rfl)
  · cases hq
def specFirst : Spec := fun
  | [v], h => match intsAt h v with
    | some l => if l.length < 4611686018427387904 then some ⟨.int .i64 (firstNZ l), h, []⟩ else none
    | none => none
  | _, _ => none
theorem first61 : SpecOK Tryz.prog gl 61 specFirst := by
  intro xs h r hq
  unfold specFirst at hq
  split at hq
  · split at hq
    · rename_i l hl
      split at hq
      · rename_i hn
        cases hq
        obtain ⟨S, cap, hf⟩ := (intsAt_sl hl).fr (fun _ => rfl)
        exact ent_run0 seat tab_nil (w61 (M := mach Tryz.prog FT []) mach_ft l hn) (.cons hf .nil) rfl (.inr rfl)
      · cases hq
    · cases hq
  · cases hq
def specName : Spec := fun
  | [.str s], h => if s.length < 1000000 then some ⟨.bool (isName s), h, []⟩ else none
  | _, _ => none
theorem name67 : SpecOK Tryz.prog gl 67 specName := by
  intro xs h r hq
  unfold specName at hq
  split at hq
  · split at hq
    · rename_i hn
      cases hq
      exact ent_run0 seat tab_nil (w67 (M := mach Tryz.prog FT []) mach_ft _ (by omega)) (FrL.same rfl) rfl (.inl rfl)
    · cases hq
  · cases hq
theorem name68 : SpecOK Tryz.prog gl 68 specName := by
  intro xs h r hq
  unfold specName at hq
  split at hq
  · split at hq
    · rename_i hn
      cases hq
      exact ent_run0 seat tab_nil (w68 (M := mach Tryz.prog FT []) mach_ft _ hn) (FrL.same rfl) rfl (.inl rfl)
    · cases hq
  · cases hq
def specIndex : Spec := fun
  | [v, .str x], h => match strsAt h v with
    | some l => if l.length < 4611686018427387904 then some ⟨.int .i64 (indexOf x l 0), h, []⟩ else none
    | none => none
  | _, _ => none
theorem index186 : SpecOK Tryz.prog gl 186 specIndex := by
  intro xs h r hq
  unfold specIndex at hq
  split at hq
  · split at hq
    · rename_i l hl
      split at hq
      · rename_i hlen
        cases hq
        obtain ⟨S, cap, hf⟩ := (strsAt_sl hl).fr (fun _ => rfl)
        exact ent_run0 seat tab_nil (w186 (M := mach Tryz.prog FT []) mach_ft l _ cap hlen) (.cons hf (.cons (.same rfl) .nil)) rfl (.inr rfl)
      · cases hq
    · cases hq
  · cases hq
def T186 : List (Nat × Spec) := [(186, specIndex)]
def specContains : Spec := fun
  | [v, .str x], h => match strsAt h v with
    | some l => if l.length < 4611686018427387904 then some ⟨.bool (decide (x ∈ l)), h, []⟩ else none
    | none => none
  | _, _ => none
theorem contains126 : SpecOK Tryz.prog gl 126 specContains := by
  intro xs h r hq
  unfold specContains at hq
  split at hq
  · split at hq
    · rename_i l hl
      split at hq
      · rename_i hlen
        cases hq
        obtain ⟨S, cap, hf⟩ := (strsAt_sl hl).fr (fun _ => rfl)
        refine ent_run0 seat (T := T186) (tab_cons index186 tab_nil) (w126 mach_ft (fun l cap x h hl => ?_) l _ cap hlen) (.cons hf (.cons (.same rfl) .nil)) rfl (.inr rfl)
        rw [mach_ext]
        show specIndex [.vs (strs l) l.length cap, .str x] h = _
        simp only [specIndex, strsAt_vs, if_pos hl]
      · cases hq
    · cases hq
  · cases hq
def TCF : List (Nat × Spec) := [(64, specWhen), (63, specRange), (61, specFirst), (67, specName), (126, specContains)]
theorem TCF_ok : ExtOK Tryz.prog gl (extS TCF) := tab_cons when64 (tab_cons range63 (tab_cons first61 (tab_cons name67 (tab_cons contains126 tab_nil))))
theorem cf {T : List (Nat × Spec)} : CF (mach Tryz.prog FT ((64, specWhen) :: (63, specRange) :: (61, specFirst) :: T)) where
  ft := mach_ft
  c64 _ _ _ := by rw [mach_ext]; rfl
  c63 _ _ _ _ := by rw [mach_ext]; rfl
  c61 v l h hl hn := by
    rw [mach_ext]
    show specFirst [v] h = _
    simp only [specFirst, hl, if_pos hn]

/-- A list of texts and a place. -/
def specNameE : Spec := fun
  | [v, .int .i64 n], h => match strsAt h v with
    | some l => if l.length < 1000000 ∧ shortL l = true ∧ 0 ≤ n ∧ n.toNat < l.length then some ⟨.int .i64 (nameE l n.toNat), h, []⟩ else none
    | none => none
  | _, _ => none
theorem specNameE_vs {l : List Str} {cap : Option Nat} {i : Nat} {h : Heap} (hl : l.length < 1000000) (hL : ∀ s ∈ l, s.length < 1000000) (hi : i < l.length) : specNameE [.vs (strs l) l.length cap, .int .i64 i] h = some ⟨.int .i64 (nameE l i), h, []⟩ := by
  simp only [specNameE, strsAt_vs, Int.toNat_natCast]
  rw [if_pos ⟨hl, shortL_of hL, by omega, hi⟩]
theorem nameE_ok {g : Nat} {T : List (Nat × Spec)} (hT : ExtOK Tryz.prog gl (extS T)) (hr : ∀ (l : List Str) cap (i : Nat), l.length < 1000000 → (∀ s ∈ l, s.length < 1000000) → i < l.length → Run (mach Tryz.prog FT T) g [.vs (strs l) l.length cap, .int .i64 i] [] ⟨.int .i64 (nameE l i), [], []⟩) : SpecOK Tryz.prog gl g specNameE := by
  intro xs h r hq
  unfold specNameE at hq
  split at hq
  · rename_i n
    split at hq
    · rename_i l hl
      split at hq
      · rename_i hc
        obtain ⟨h1, h2, h3, h4⟩ := hc
        cases hq
        obtain ⟨S, cap, hf⟩ := (strsAt_sl hl).fr (fun _ => rfl)
        have e : ((n.toNat : Nat) : Int) = n := by omega
        have := hr l cap n.toNat h1 (shortL_mem h2) h4
        rw [e] at this
        exact ent_run0 seat hT this (.cons hf (.cons (.same rfl) .nil)) rfl (.inr rfl)
      · cases hq
    · cases hq
  · cases hq
theorem name76 : SpecOK Tryz.prog gl 76 specNameE := nameE_ok TCF_ok fun l cap i hl hL hi => w76 cf (fun s h hs => by
    rw [mach_ext]
    show specName [.str s] h = _
    simp only [specName, if_pos hs]) (fun l x cap h hl => by
    rw [mach_ext]
    show specContains [.vs (strs l) l.length cap, .str x] h = _
    simp only [specContains, strsAt_vs]
    rw [if_pos (by omega)]) l hl hL i hi
def T68 : List (Nat × Spec) := [(68, specName)]
theorem name73 : SpecOK Tryz.prog gl 73 specNameE := nameE_ok (T := T68) (tab_cons name68 tab_nil) fun l cap i hl hL hi => w73 mach_ft (fun s h hs => by
    rw [mach_ext]
    show specName [.str s] h = _
    simp only [specName, if_pos hs]) l hl hL i hi

/-- A list of texts. -/
def specStrs (f : List Str → Int) : Spec := fun
  | [v], h => match strsAt h v with
    | some l => if l.length < 1000000 ∧ shortL l = true then some ⟨.int .i64 (f l), h, []⟩ else none
    | none => none
  | _, _ => none
theorem specStrs_vs {f : List Str → Int} {l : List Str} {cap : Option Nat} {h : Heap} (hl : l.length < 1000000) (hL : ∀ s ∈ l, s.length < 1000000) : specStrs f [.vs (strs l) l.length cap] h = some ⟨.int .i64 (f l), h, []⟩ := by
  simp only [specStrs, strsAt_vs]
  rw [if_pos ⟨hl, shortL_of hL⟩]
theorem strs_ok {g : Nat} {f : List Str → Int} {T : List (Nat × Spec)} (hT : ExtOK Tryz.prog gl (extS T)) (hr : ∀ (l : List Str) cap, l.length < 1000000 → (∀ s ∈ l, s.length < 1000000) → Run (mach Tryz.prog FT T) g [.vs (strs l) l.length cap] [] ⟨.int .i64 (f l), [], []⟩) : SpecOK Tryz.prog gl g (specStrs f) := by
  intro xs h r hq
  unfold specStrs at hq
  split at hq
  · split at hq
    · rename_i l hl
      split at hq
      · rename_i hc
        cases hq
        obtain ⟨S, cap, hf⟩ := (strsAt_sl hl).fr (fun _ => rfl)
        exact ent_run0 seat hT (hr l cap hc.1 (shortL_mem hc.2)) (.cons hf .nil) rfl (.inr rfl)
      · cases hq
    · cases hq
  · cases hq
def TC62 : List (Nat × Spec) := [(64, specWhen), (63, specRange), (61, specFirst), (76, specNameE)]
theorem TC62_ok : ExtOK Tryz.prog gl (extS TC62) := tab_cons when64 (tab_cons range63 (tab_cons first61 (tab_cons name76 tab_nil)))
theorem ath62 : SpecOK Tryz.prog gl 62 (specStrs athE) := strs_ok TC62_ok fun l cap hl hL => w62 cf (fun l cap i h hl hL hi => by
    rw [mach_ext]; exact specNameE_vs hl hL hi) l hl hL
def T73 : List (Nat × Spec) := [(73, specNameE)]
theorem ath65 : SpecOK Tryz.prog gl 65 (specStrs athE) := strs_ok (T := T73) (tab_cons name73 tab_nil) fun l cap hl hL => w65 mach_ft (fun l cap i h hl hL hi => by
    rw [mach_ext]; exact specNameE_vs hl hL hi) l hl hL

/-- Names as arguments of ShortNames. -/
def specShort : Spec := fun
  | [v], h => match strsAt h v with
    | some l => some ⟨.bool (shortN l), h, []⟩
    | none => none
  | _, _ => none
theorem short9 : SpecOK Tryz.prog gl 9 specShort := by
  intro xs h r hq
  unfold specShort at hq
  split at hq
  · split at hq
    · rename_i l hl
      cases hq
      obtain ⟨S, cap, hf⟩ := (strsAt_sl hl).fr (fun _ => rfl)
      exact ent_run0 seat tab_nil (w9 (M := mach Tryz.prog FT []) mach_ft l) (.cons hf .nil) rfl (.inr rfl)
    · cases hq
  · cases hq

theorem agg4_fr {h : Heap} {S : List Nat} {x y a b c : AV} (hx : Fr h S x y) (ha : a.top = 0) (hb : b.top = 0) (hc : c.top = 0) : Fr h S (.agg [x, a, b, c]) (.agg [y, a, b, c]) :=
  .agg rfl fun i p q hp hq => by
    match i, hp, hq with
    | 0, hp, hq => cases hp; cases hq; exact hx
    | 1, hp, hq => cases hp; cases hq; exact .same ha
    | 2, hp, hq => cases hp; cases hq; exact .same hb
    | 3, hp, hq => cases hp; cases hq; exact .same hc
theorem agg3_fr {h : Heap} {S : List Nat} {x y x' y' a : AV} (hx : Fr h S x y) (hx' : Fr h S x' y') (ha : a.top = 0) : Fr h S (.agg [x, x', a]) (.agg [y, y', a]) :=
  .agg rfl fun i p q hp hq => by
    match i, hp, hq with
    | 0, hp, hq => cases hp; cases hq; exact hx
    | 1, hp, hq => cases hp; cases hq; exact hx'
    | 2, hp, hq => cases hp; cases hq; exact .same ha

def specContest : Spec := fun
  | [.agg [v, .int .i64 t, .int .i64 f, .int .i64 m]], h => match strsAt h v with
    | some l => if l.length < 1000000 ∧ shortL l = true then some ⟨.int .i64 (contestE l t f m), h, []⟩ else none
    | none => none
  | _, _ => none
theorem contest_ok {g : Nat} {T : List (Nat × Spec)} (hT : ExtOK Tryz.prog gl (extS T)) (hr : ∀ (l : List Str) cap t f m, l.length < 1000000 → (∀ s ∈ l, s.length < 1000000) → Run (mach Tryz.prog FT T) g [.agg [.vs (strs l) l.length cap, .int .i64 t, .int .i64 f, .int .i64 m]] [] ⟨.int .i64 (contestE l t f m), [], []⟩) : SpecOK Tryz.prog gl g specContest := by
  intro xs h r hq
  unfold specContest at hq
  split at hq
  · split at hq
    · rename_i l hl
      split at hq
      · rename_i hc
        cases hq
        obtain ⟨S, cap, hf⟩ := (strsAt_sl hl).fr (fun _ => rfl)
        exact ent_run0 seat hT (hr l cap _ _ _ hc.1 (shortL_mem hc.2)) (.cons (agg4_fr hf rfl rfl rfl) .nil) rfl (.inr rfl)
      · cases hq
    · cases hq
  · cases hq
def TC11 : List (Nat × Spec) := [(64, specWhen), (63, specRange), (61, specFirst), (62, specStrs athE)]
theorem TC11_ok : ExtOK Tryz.prog gl (extS TC11) := tab_cons when64 (tab_cons range63 (tab_cons first61 (tab_cons ath62 tab_nil)))
theorem contest11 : SpecOK Tryz.prog gl 11 specContest := contest_ok TC11_ok fun l cap t f m hl hL => w11 cf (fun l cap h hl hL => by
    rw [mach_ext]; exact specStrs_vs hl hL) l t f m hl hL
def T65 : List (Nat × Spec) := [(65, specStrs athE)]
theorem T65_ok : ExtOK Tryz.prog gl (extS T65) := tab_cons ath65 tab_nil
theorem contest12 : SpecOK Tryz.prog gl 12 specContest := contest_ok T65_ok fun l cap t f m hl hL => w12 mach_ft (fun l cap h hl hL => by
    rw [mach_ext]; exact specStrs_vs hl hL) l t f m hl hL

def specVertical : Spec := fun
  | [.agg [v, u, .int .i64 s]], h => match strsAt h v, intsAt h u with
    | some l, some hs => if l.length < 1000000 ∧ shortL l = true ∧ hs.length < 1000000 then some ⟨.int .i64 (verticalE l hs s), h, []⟩ else none
    | _, _ => none
  | _, _ => none
theorem vertical_ok {g : Nat} {T : List (Nat × Spec)} (hT : ExtOK Tryz.prog gl (extS T)) (hr : ∀ (l : List Str) (hs : List Int) c1 c2 s, l.length < 1000000 → (∀ s ∈ l, s.length < 1000000) → hs.length < 1000000 → Run (mach Tryz.prog FT T) g [.agg [.vs (strs l) l.length c1, .vs (ints hs) hs.length c2, .int .i64 s]] [] ⟨.int .i64 (verticalE l hs s), [], []⟩) : SpecOK Tryz.prog gl g specVertical := by
  intro xs h r hq
  unfold specVertical at hq
  split at hq
  · split at hq
    · rename_i l hs hl hh
      split at hq
      · rename_i hc
        cases hq
        obtain ⟨S1, c1, f1⟩ := (strsAt_sl hl).fr (fun _ => rfl)
        obtain ⟨S2, c2, f2⟩ := (intsAt_sl hh).fr (fun _ => rfl)
        exact ent_run0 seat (S := S1 ++ S2) hT (hr l hs c1 c2 _ hc.1 (shortL_mem hc.2.1) hc.2.2) (.cons (agg3_fr (f1.mono (fun b hb => List.mem_append_left _ hb)) (f2.mono (fun b hb => List.mem_append_right _ hb)) rfl) .nil) rfl (.inr rfl)
      · cases hq
    · cases hq
  · cases hq
theorem vertical13 : SpecOK Tryz.prog gl 13 specVertical := vertical_ok TC11_ok fun l hs c1 c2 s hl hL hh => w13 cf (fun l cap h hl hL => by
    rw [mach_ext]; exact specStrs_vs hl hL) l hs s hl hL hh
theorem vertical14 : SpecOK Tryz.prog gl 14 specVertical := vertical_ok T65_ok fun l hs c1 c2 s hl hL hh => w14 mach_ft (fun l cap h hl hL => by
    rw [mach_ext]; exact specStrs_vs hl hL) l hs s hl hL hh

def TLaw : List (Nat × Spec) := [(10, specAwake), (9, specShort), (11, specContest), (12, specContest), (13, specVertical), (14, specVertical)]
theorem TLaw_ok : ExtOK Tryz.prog gl (extS TLaw) := tab_cons awake10 (tab_cons short9 (tab_cons contest11 (tab_cons contest12 (tab_cons vertical13 (tab_cons vertical14 tab_nil)))))
theorem contest_vs {l : List Str} {cap : Option Nat} {t f m : Int} {h : Heap} (hl : l.length < 1000000) (hL : ∀ s ∈ l, s.length < 1000000) : specContest [.agg [.vs (strs l) l.length cap, .int .i64 t, .int .i64 f, .int .i64 m]] h = some ⟨.int .i64 (contestE l t f m), h, []⟩ := by
  simp only [specContest, strsAt_vs]
  rw [if_pos ⟨hl, shortL_of hL⟩]
theorem vertical_vs {l : List Str} {hs : List Int} {c1 c2 : Option Nat} {s : Int} {h : Heap} (hl : l.length < 1000000) (hL : ∀ s ∈ l, s.length < 1000000) (hh : hs.length < 1000000) : specVertical [.agg [.vs (strs l) l.length c1, .vs (ints hs) hs.length c2, .int .i64 s]] h = some ⟨.int .i64 (verticalE l hs s), h, []⟩ := by
  simp only [specVertical, strsAt_vs, intsAt_vs]
  rw [if_pos ⟨hl, shortL_of hL, hh⟩]
theorem calls3 : C3 (mach Tryz.prog FT TLaw) where
  ft := mach_ft
  c10 _ := by rw [mach_ext]; rfl
  c9 l cap h := by
    rw [mach_ext]
    show specShort [.vs (strs l) l.length cap] h = _
    simp only [specShort, strsAt_vs]
  c11 l cap t f m h hl hL := by rw [mach_ext]; exact contest_vs hl hL
  c12 l cap t f m h hl hL := by rw [mach_ext]; exact contest_vs hl hL
  c13 l hs s c1 c2 h hl hL hh := by rw [mach_ext]; exact vertical_vs hl hL hh
  c14 l hs s c1 c2 h hl hL hh := by rw [mach_ext]; exact vertical_vs hl hL hh
end Go.Ab.Ch6

