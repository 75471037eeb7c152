/-
  Own work: the code of the library that images in texts need.
-/
import Derived.Test.YtmngppcmhfhgaaaGreatDoorCh5Base
import Derived.Test.YtmngppcmhfhgaaaGreatDoorLib3
import Derived.Test.YtmngppcmhfhgaaaGreatDoorLib2
import Derived.Lib.ItoaNum
namespace Go.Ab.Ch5
set_option maxRecDepth 1000000
/-- An empty set of bytes. -/
def no256 : List AV := [.bool false, .bool false, .bool false, .bool false, .bool false, .bool false, .bool false, .bool false, .bool false, .bool false, .bool false, .bool false, .bool false, .bool false, .bool false, .bool false, .bool false, .bool false, .bool false, .bool false, .bool false, .bool false, .bool false, .bool false, .bool false, .bool false, .bool false, .bool false, .bool false, .bool false, .bool false, .bool false, .bool false, .bool false, .bool false, .bool false, .bool false, .bool false, .bool false, .bool false, .bool false, .bool false, .bool false, .bool false, .bool false, .bool false, .bool false, .bool false, .bool false, .bool false, .bool false, .bool false, .bool false, .bool false, .bool false, .bool false, .bool false, .bool false, .bool false, .bool false, .bool false, .bool false, .bool false, .bool false, .bool false, .bool false, .bool false, .bool false, .bool false, .bool false, .bool false, .bool false, .bool false, .bool false, .bool false, .bool false, .bool false, .bool false, .bool false, .bool false, .bool false, .bool false, .bool false, .bool false, .bool false, .bool false, .bool false, .bool false, .bool false, .bool false, .bool false, .bool false, .bool false, .bool false, .bool false, .bool false, .bool false, .bool false, .bool false, .bool false, .bool false, .bool false, .bool false, .bool false, .bool false, .bool false, .bool false, .bool false, .bool false, .bool false, .bool false, .bool false, .bool false, .bool false, .bool false, .bool false, .bool false, .bool false, .bool false, .bool false, .bool false, .bool false, .bool false, .bool false, .bool false, .bool false, .bool false, .bool false, .bool false, .bool false, .bool false, .bool false, .bool false, .bool false, .bool false, .bool false, .bool false, .bool false, .bool false, .bool false, .bool false, .bool false, .bool false, .bool false, .bool false, .bool false, .bool false, .bool false, .bool false, .bool false, .bool false, .bool false, .bool false, .bool false, .bool false, .bool false, .bool false, .bool false, .bool false, .bool false, .bool false, .bool false, .bool false, .bool false, .bool false, .bool false, .bool false, .bool false, .bool false, .bool false, .bool false, .bool false, .bool false, .bool false, .bool false, .bool false, .bool false, .bool false, .bool false, .bool false, .bool false, .bool false, .bool false, .bool false, .bool false, .bool false, .bool false, .bool false, .bool false, .bool false, .bool false, .bool false, .bool false, .bool false, .bool false, .bool false, .bool false, .bool false, .bool false, .bool false, .bool false, .bool false, .bool false, .bool false, .bool false, .bool false, .bool false, .bool false, .bool false, .bool false, .bool false, .bool false, .bool false, .bool false, .bool false, .bool false, .bool false, .bool false, .bool false, .bool false, .bool false, .bool false, .bool false, .bool false, .bool false, .bool false, .bool false, .bool false, .bool false, .bool false, .bool false, .bool false, .bool false, .bool false, .bool false, .bool false, .bool false, .bool false, .bool false, .bool false, .bool false, .bool false, .bool false, .bool false, .bool false, .bool false, .bool false, .bool false, .bool false, .bool false, .bool false, .bool false, .bool false, .bool false, .bool false, .bool false]
/-- strings.HasSuffix -/
def b92 : ICode :=
 .seq (.region [⟨(.p 2), .mv (.c (.bool false)), none⟩])
  (.seq (.region [⟨(.l 5), .mv (.p 0), none⟩,
     ⟨(.l 6), .mv (.p 1), none⟩,
     ⟨(.l 7), .call (.c (.fn (.func 159) [] [])) [(.l 5), (.l 6)], none⟩,
     ⟨(.p 2), .mv (.l 7), none⟩])
   (.ret))
theorem ft92 : FT 92 = some ⟨8, [0, 1, 4], [.var (.p 2)], b92⟩ := by kernel_rfl

/-- strings.TrimSuffix -/
def b95 : ICode :=
 .seq (.region [⟨(.p 2), .mv (.c (.str [])), none⟩])
  (.seq (.region [⟨(.l 5), .mv (.p 0), none⟩,
     ⟨(.l 6), .mv (.p 1), none⟩,
     ⟨(.l 7), .call (.c (.fn (.func 164) [] [])) [(.l 5), (.l 6)], none⟩,
     ⟨(.p 2), .mv (.l 7), none⟩])
   (.ret))
theorem ft95 : FT 95 = some ⟨8, [0, 1, 4], [.var (.p 2)], b95⟩ := by kernel_rfl

/-- strings.Split -/
def b94 : ICode :=
 .seq (.region [⟨(.p 2), .mv (.c (.nilsl)), none⟩])
  (.seq (.region [⟨(.l 5), .mv (.p 0), none⟩,
     ⟨(.l 6), .mv (.p 1), none⟩,
     ⟨(.l 7), .call (.c (.fn (.func 163) [] [])) [(.l 5), (.l 6), (.c (.int .i64 (0))), (.c (.int .i64 (-1)))], none⟩,
     ⟨(.p 2), .mv (.l 7), none⟩])
   (.ret))
theorem ft94 : FT 94 = some ⟨8, [0, 1, 4], [.var (.p 2)], b94⟩ := by kernel_rfl

/-- strings.Cut -/
def b160 : ICode :=
 .seq (.region [⟨(.p 2), .mv (.c (.str [])), none⟩,
    ⟨(.p 3), .mv (.c (.str [])), none⟩,
    ⟨(.p 4), .mv (.c (.bool false)), none⟩])
  (.seq (.region [⟨(.l 7), .mv (.p 0), none⟩,
     ⟨(.l 8), .mv (.p 1), none⟩,
     ⟨(.l 9), .call (.c (.fn (.func 210) [] [])) [(.l 7), (.l 8)], none⟩,
     ⟨(.l 10), .extract 0 (.l 9), none⟩,
     ⟨(.l 11), .extract 1 (.l 9), none⟩,
     ⟨(.l 12), .extract 2 (.l 9), none⟩,
     ⟨(.p 2), .mv (.l 10), none⟩,
     ⟨(.p 3), .mv (.l 11), none⟩,
     ⟨(.p 4), .mv (.l 12), none⟩])
   (.ret))
theorem ft160 : FT 160 = some ⟨13, [0, 1, 4, 5, 6], [.var (.p 2), .var (.p 3), .var (.p 4)], b160⟩ := by kernel_rfl

def b163_0 : ICode :=
 .seq (.seq (.region [⟨(.l 34), .mv (.p 6), none⟩,
     ⟨(.l 35), .mv (.p 3), none⟩,
     ⟨(.l 36), .bin .lss (.l 34) (.l 35), none⟩])
   (.cond (.l 36)
    (.skip)
    (.exit 0)))
  (.block 1
   (.seq (.region [⟨(.l 37), .mv (.p 0), none⟩,
      ⟨(.l 38), .mv (.p 1), none⟩,
      ⟨(.l 39), .call (.c (.fn (.func 213) [] [])) [(.l 37), (.l 38)], none⟩,
      ⟨(.p 7), .mv (.l 39), none⟩])
    (.seq (.seq (.region [⟨(.l 40), .mv (.p 7), none⟩,
        ⟨(.l 41), .bin .lss (.l 40) (.c (.int .i64 (0))), none⟩])
      (.cond (.l 41)
       (.exit 0)
       (.skip)))
     (.seq (.region [⟨(.l 42), .mv (.p 5), none⟩,
        ⟨(.l 43), .mv (.p 6), none⟩,
        ⟨(.l 44), .mv (.p 0), none⟩,
        ⟨(.l 45), .mv (.p 7), none⟩,
        ⟨(.l 46), .mv (.p 2), none⟩,
        ⟨(.l 47), .bin .add (.l 45) (.l 46), none⟩,
        ⟨(.l 48), .slice .str 1 (.l 44) none (some (.l 47)) none, none⟩,
        ⟨(.l 49), .iaddr none 1 (.l 42) (.l 43), none⟩,
        ⟨.no, .store 1 (.l 49) (.l 48), none⟩])
      (.seq (.region [⟨(.l 50), .mv (.p 0), none⟩,
         ⟨(.l 51), .mv (.p 7), none⟩,
         ⟨(.l 52), .mv (.p 1), none⟩,
         ⟨(.l 53), .len .str (.l 52), none⟩,
         ⟨(.l 54), .bin .add (.l 51) (.l 53), none⟩,
         ⟨(.l 55), .slice .str 1 (.l 50) (some (.l 54)) none none, none⟩,
         ⟨(.p 0), .mv (.l 55), none⟩])
       (.region [⟨(.l 56), .mv (.p 6), none⟩,
         ⟨(.l 57), .bin .add (.l 56) (.c (.int .i64 (1))), none⟩,
         ⟨(.p 6), .mv (.l 57), none⟩]))))))
/-- strings.genSplit -/
def b163 : ICode :=
 .seq (.region [⟨(.p 4), .mv (.c (.nilsl)), none⟩])
  (.seq (.seq (.region [⟨(.l 12), .mv (.p 3), none⟩,
      ⟨(.l 13), .bin .eql (.l 12) (.c (.int .i64 (0))), none⟩])
    (.cond (.l 13)
     (.seq (.region [⟨(.p 4), .mv (.c (.nilsl)), none⟩])
      (.ret))
     (.skip)))
   (.seq (.seq (.region [⟨(.l 14), .mv (.p 1), none⟩,
       ⟨(.l 15), .bin .eql (.l 14) (.c (.str [])), none⟩])
     (.cond (.l 15)
      (.seq (.region [⟨(.l 16), .mv (.p 0), none⟩,
         ⟨(.l 17), .mv (.p 3), none⟩,
         ⟨(.l 18), .call (.c (.fn (.func 214) [] [])) [(.l 16), (.l 17)], none⟩,
         ⟨(.p 4), .mv (.l 18), none⟩])
       (.ret))
      (.skip)))
    (.seq (.seq (.region [⟨(.l 19), .mv (.p 3), none⟩,
        ⟨(.l 20), .bin .lss (.l 19) (.c (.int .i64 (0))), none⟩])
      (.cond (.l 20)
       (.region [⟨(.l 21), .mv (.p 0), none⟩,
         ⟨(.l 22), .mv (.p 1), none⟩,
         ⟨(.l 23), .call (.c (.fn (.func 215) [] [])) [(.l 21), (.l 22)], none⟩,
         ⟨(.l 24), .bin .add (.l 23) (.c (.int .i64 (1))), none⟩,
         ⟨(.p 3), .mv (.l 24), none⟩])
       (.skip)))
     (.seq (.region [⟨(.l 25), .mv (.p 3), none⟩,
        ⟨(.l 26), .mv (.p 0), none⟩,
        ⟨(.l 27), .len .str (.l 26), none⟩,
        ⟨(.l 28), .bin .add (.l 27) (.c (.int .i64 (1))), none⟩,
        ⟨(.l 29), .mm false [(.l 25), (.l 28)], none⟩,
        ⟨(.p 3), .mv (.l 29), none⟩])
      (.seq (.region [⟨(.l 30), .mv (.p 3), none⟩,
         ⟨(.l 31), .mkslice 9 1 16 [.str []] (.l 30) (.l 30), none⟩,
         ⟨(.p 5), .mv (.l 31), none⟩])
       (.seq (.region [⟨(.l 32), .mv (.p 3), none⟩,
          ⟨(.l 33), .bin .sub (.l 32) (.c (.int .i64 (1))), none⟩,
          ⟨(.p 3), .mv (.l 33), none⟩])
        (.seq (.region [⟨(.p 6), .mv (.c (.int .i64 (0))), none⟩])
         (.seq (.block 0
           (.loop b163_0))
          (.seq (.region [⟨(.l 58), .mv (.p 5), none⟩,
             ⟨(.l 59), .mv (.p 6), none⟩,
             ⟨(.l 60), .mv (.p 0), none⟩,
             ⟨(.l 61), .iaddr none 1 (.l 58) (.l 59), none⟩,
             ⟨.no, .store 1 (.l 61) (.l 60), none⟩])
           (.seq (.region [⟨(.l 62), .mv (.p 5), none⟩,
              ⟨(.l 63), .mv (.p 6), none⟩,
              ⟨(.l 64), .bin .add (.l 63) (.c (.int .i64 (1))), none⟩,
              ⟨(.l 65), .slice .sl 1 (.l 62) none (some (.l 64)) none, none⟩,
              ⟨(.p 4), .mv (.l 65), none⟩])
            (.ret)))))))))))
theorem ft163 : FT 163 = some ⟨66, [0, 1, 2, 3, 8, 9, 10, 11], [.var (.p 4)], b163⟩ := by kernel_rfl

def b215_0 : ICode :=
 .block 1
  (.seq (.region [⟨(.l 20), .mv (.p 0), none⟩,
     ⟨(.l 21), .mv (.p 1), none⟩,
     ⟨(.l 22), .call (.c (.fn (.func 213) [] [])) [(.l 20), (.l 21)], none⟩,
     ⟨(.p 4), .mv (.l 22), none⟩])
   (.seq (.seq (.region [⟨(.l 23), .mv (.p 4), none⟩,
       ⟨(.l 24), .bin .eql (.l 23) (.c (.int .i64 (-1))), none⟩])
     (.cond (.l 24)
      (.seq (.region [⟨(.l 25), .mv (.p 3), none⟩,
         ⟨(.p 2), .mv (.l 25), none⟩])
       (.ret))
      (.skip)))
    (.seq (.region [⟨(.l 26), .mv (.p 3), none⟩,
       ⟨(.l 27), .bin .add (.l 26) (.c (.int .i64 (1))), none⟩,
       ⟨(.p 3), .mv (.l 27), none⟩])
     (.region [⟨(.l 28), .mv (.p 0), none⟩,
       ⟨(.l 29), .mv (.p 4), none⟩,
       ⟨(.l 30), .mv (.p 1), none⟩,
       ⟨(.l 31), .len .str (.l 30), none⟩,
       ⟨(.l 32), .bin .add (.l 29) (.l 31), none⟩,
       ⟨(.l 33), .slice .str 1 (.l 28) (some (.l 32)) none none, none⟩,
       ⟨(.p 0), .mv (.l 33), none⟩]))))
/-- strings.Count -/
def b215 : ICode :=
 .seq (.region [⟨(.p 2), .mv (.c (.int .i64 (0))), none⟩])
  (.seq (.seq (.region [⟨(.l 7), .mv (.p 1), none⟩,
      ⟨(.l 8), .len .str (.l 7), none⟩,
      ⟨(.l 9), .bin .eql (.l 8) (.c (.int .i64 (0))), none⟩])
    (.cond (.l 9)
     (.seq (.region [⟨(.l 10), .mv (.p 0), none⟩,
        ⟨(.l 11), .call (.c (.fn (.func 280) [] [])) [(.l 10)], none⟩,
        ⟨(.l 12), .bin .add (.l 11) (.c (.int .i64 (1))), none⟩,
        ⟨(.p 2), .mv (.l 12), none⟩])
      (.ret))
     (.skip)))
   (.seq (.seq (.region [⟨(.l 13), .mv (.p 1), none⟩,
       ⟨(.l 14), .len .str (.l 13), none⟩,
       ⟨(.l 15), .bin .eql (.l 14) (.c (.int .i64 (1))), none⟩])
     (.cond (.l 15)
      (.seq (.region [⟨(.l 16), .mv (.p 0), none⟩,
         ⟨(.l 17), .mv (.p 1), none⟩,
         ⟨(.l 18), .index (.l 17) (.c (.int .i64 (0))), none⟩,
         ⟨(.l 19), .call (.c (.fn (.func 282) [] [])) [(.l 16), (.l 18)], none⟩,
         ⟨(.p 2), .mv (.l 19), none⟩])
       (.ret))
      (.skip)))
    (.seq (.region [⟨(.p 3), .mv (.c (.int .i64 (0))), none⟩])
     (.block 0
      (.loop b215_0)))))
theorem ft215 : FT 215 = some ⟨34, [0, 1, 4, 5, 6], [.var (.p 2)], b215⟩ := by kernel_rfl

/-- strings.Trim -/
def b211 : ICode :=
 .seq (.region [⟨(.p 2), .mv (.c (.str [])), none⟩])
  (.seq (.seq (.region [⟨(.l 7), .mv (.p 0), none⟩,
      ⟨(.l 8), .bin .eql (.l 7) (.c (.str [])), none⟩,
      ⟨(.l 9), .mv (.l 8), none⟩,
      ⟨(.l 10), .mv (.p 1), some ((.l 9), false)⟩,
      ⟨(.l 11), .bin .eql (.l 10) (.c (.str [])), some ((.l 9), false)⟩,
      ⟨(.l 12), .pick (.l 9) (.c (.bool true)) (.l 11), none⟩])
    (.cond (.l 12)
     (.seq (.region [⟨(.l 13), .mv (.p 0), none⟩,
        ⟨(.p 2), .mv (.l 13), none⟩])
      (.ret))
     (.skip)))
   (.seq (.seq (.region [⟨(.l 14), .mv (.p 1), none⟩,
       ⟨(.l 15), .len .str (.l 14), none⟩,
       ⟨(.l 16), .bin .eql (.l 15) (.c (.int .i64 (1))), none⟩,
       ⟨(.l 17), .mv (.l 16), none⟩,
       ⟨(.l 18), .mv (.p 1), some ((.l 17), true)⟩,
       ⟨(.l 19), .index (.l 18) (.c (.int .i64 (0))), some ((.l 17), true)⟩,
       ⟨(.l 20), .bin .lss (.l 19) (.c (.int .u8 (128))), some ((.l 17), true)⟩,
       ⟨(.l 21), .pick (.l 17) (.l 20) (.c (.bool false)), none⟩])
     (.cond (.l 21)
      (.seq (.draw [(⟨(.l 22), .mv (.p 0), none⟩, []),
         (⟨(.l 23), .mv (.p 1), none⟩, [0]),
         (⟨(.l 24), .index (.l 23) (.c (.int .i64 (0))), none⟩, [0]),
         (⟨(.l 25), .call (.c (.fn (.func 272) [] [])) [(.l 22), (.l 24)], none⟩, []),
         (⟨(.l 26), .mv (.p 1), none⟩, [0, 1, 2, 3]),
         (⟨(.l 27), .index (.l 26) (.c (.int .i64 (0))), none⟩, [0, 1, 2, 3]),
         (⟨(.l 28), .call (.c (.fn (.func 271) [] [])) [(.l 25), (.l 27)], none⟩, []),
         (⟨(.p 2), .mv (.l 28), none⟩, [])])
       (.ret))
      (.skip)))
    (.seq (.seq (.region [⟨(.l 30), .mv (.p 1), none⟩,
        ⟨(.l 31), .call (.c (.fn (.func 273) [] [])) [(.l 30)], none⟩,
        ⟨(.l 29), .mv (.l 31), none⟩,
        ⟨(.l 32), .extract 0 (.l 29), none⟩,
        ⟨(.l 33), .extract 1 (.l 29), none⟩,
        ⟨(.p 3), .alloc 314 no256, none⟩,
        ⟨.no, .store 256 (.p 3) (.l 32), none⟩,
        ⟨(.p 4), .mv (.l 33), none⟩])
      (.seq (.region [⟨(.l 34), .mv (.p 4), none⟩])
       (.cond (.l 34)
        (.seq (.region [⟨(.l 35), .mv (.p 0), none⟩,
           ⟨(.l 36), .call (.c (.fn (.func 275) [] [])) [(.l 35), (.p 3)], none⟩,
           ⟨(.l 37), .call (.c (.fn (.func 274) [] [])) [(.l 36), (.p 3)], none⟩,
           ⟨(.p 2), .mv (.l 37), none⟩])
         (.ret))
        (.skip))))
     (.seq (.region [⟨(.l 38), .mv (.p 0), none⟩,
        ⟨(.l 39), .mv (.p 1), none⟩,
        ⟨(.l 40), .call (.c (.fn (.func 277) [] [])) [(.l 38), (.l 39)], none⟩,
        ⟨(.l 41), .mv (.p 1), none⟩,
        ⟨(.l 42), .call (.c (.fn (.func 276) [] [])) [(.l 40), (.l 41)], none⟩,
        ⟨(.p 2), .mv (.l 42), none⟩])
      (.ret)))))
theorem ft211 : FT 211 = some ⟨43, [0, 1, 4, 5, 6], [.var (.p 2)], b211⟩ := by kernel_rfl

/-- strconv.Atoi -/
def b212 : ICode :=
 .seq (.region [⟨(.p 1), .mv (.c (.int .i64 (0))), none⟩,
    ⟨(.p 2), .mv (.c (.niliface)), none⟩])
  (.seq (.region [⟨(.l 7), .mv (.p 0), none⟩,
     ⟨(.l 8), .call (.c (.fn (.func 278) [] [])) [(.l 7)], none⟩,
     ⟨(.l 6), .mv (.l 8), none⟩,
     ⟨(.l 9), .extract 0 (.l 6), none⟩,
     ⟨(.l 10), .extract 1 (.l 6), none⟩,
     ⟨(.p 3), .mv (.l 9), none⟩,
     ⟨(.p 4), .mv (.l 10), none⟩])
   (.seq (.seq (.region [⟨(.l 11), .mv (.p 4), none⟩,
       ⟨(.l 12), .eq true (.iface false) (.l 11) (.c (.niliface)), none⟩])
     (.cond (.l 12)
      (.seq (.region [⟨(.l 13), .mv (.p 3), none⟩,
         ⟨(.l 14), .mv (.p 0), none⟩,
         ⟨(.l 15), .mv (.p 4), none⟩,
         ⟨(.l 16), .call (.c (.fn (.func 279) [] [])) [(.c (.str [65, 116, 111, 105])), (.l 14), (.c (.int .i64 (0))), (.c (.int .i64 (0))), (.l 15)], none⟩,
         ⟨(.p 1), .mv (.l 13), none⟩,
         ⟨(.p 2), .mv (.l 16), none⟩])
       (.ret))
      (.skip)))
    (.seq (.region [⟨(.l 17), .mv (.p 3), none⟩,
       ⟨(.p 1), .mv (.l 17), none⟩,
       ⟨(.p 2), .mv (.c (.niliface)), none⟩])
     (.ret))))
theorem ft212 : FT 212 = some ⟨18, [0, 2, 3, 4, 5], [.var (.p 1), .var (.p 2)], b212⟩ := by kernel_rfl

/-- internal/stringslite.HasSuffix -/
def b159 : ICode :=
 .seq (.region [⟨(.p 2), .mv (.c (.bool false)), none⟩])
  (.seq (.region [⟨(.l 5), .mv (.p 0), none⟩,
     ⟨(.l 6), .len .str (.l 5), none⟩,
     ⟨(.l 7), .mv (.p 1), none⟩,
     ⟨(.l 8), .len .str (.l 7), none⟩,
     ⟨(.l 9), .bin .geq (.l 6) (.l 8), none⟩,
     ⟨(.l 10), .mv (.l 9), none⟩,
     ⟨(.l 11), .mv (.p 0), some ((.l 10), true)⟩,
     ⟨(.l 12), .mv (.p 0), some ((.l 10), true)⟩,
     ⟨(.l 13), .len .str (.l 12), some ((.l 10), true)⟩,
     ⟨(.l 14), .mv (.p 1), some ((.l 10), true)⟩,
     ⟨(.l 15), .len .str (.l 14), some ((.l 10), true)⟩,
     ⟨(.l 16), .bin .sub (.l 13) (.l 15), some ((.l 10), true)⟩,
     ⟨(.l 17), .slice .str 1 (.l 11) (some (.l 16)) none none, some ((.l 10), true)⟩,
     ⟨(.l 18), .mv (.p 1), some ((.l 10), true)⟩,
     ⟨(.l 19), .bin .eql (.l 17) (.l 18), some ((.l 10), true)⟩,
     ⟨(.l 20), .pick (.l 10) (.l 19) (.c (.bool false)), none⟩,
     ⟨(.p 2), .mv (.l 20), none⟩])
   (.ret))
theorem ft159 : FT 159 = some ⟨21, [0, 1, 4], [.var (.p 2)], b159⟩ := by kernel_rfl

/-- internal/stringslite.TrimSuffix -/
def b164 : ICode :=
 .seq (.region [⟨(.p 2), .mv (.c (.str [])), none⟩])
  (.seq (.seq (.region [⟨(.l 5), .mv (.p 0), none⟩,
      ⟨(.l 6), .mv (.p 1), none⟩,
      ⟨(.l 7), .call (.c (.fn (.func 159) [] [])) [(.l 5), (.l 6)], none⟩])
    (.cond (.l 7)
     (.seq (.region [⟨(.l 8), .mv (.p 0), none⟩,
        ⟨(.l 9), .mv (.p 0), none⟩,
        ⟨(.l 10), .len .str (.l 9), none⟩,
        ⟨(.l 11), .mv (.p 1), none⟩,
        ⟨(.l 12), .len .str (.l 11), none⟩,
        ⟨(.l 13), .bin .sub (.l 10) (.l 12), none⟩,
        ⟨(.l 14), .slice .str 1 (.l 8) none (some (.l 13)) none, none⟩,
        ⟨(.p 2), .mv (.l 14), none⟩])
      (.ret))
     (.skip)))
   (.seq (.region [⟨(.l 15), .mv (.p 0), none⟩,
      ⟨(.p 2), .mv (.l 15), none⟩])
    (.ret)))
theorem ft164 : FT 164 = some ⟨16, [0, 1, 4], [.var (.p 2)], b164⟩ := by kernel_rfl

/-- internal/stringslite.Cut -/
def b210 : ICode :=
 .seq (.region [⟨(.p 2), .mv (.c (.str [])), none⟩,
    ⟨(.p 3), .mv (.c (.str [])), none⟩,
    ⟨(.p 4), .mv (.c (.bool false)), none⟩])
  (.seq (.seq (.region [⟨(.l 8), .mv (.p 0), none⟩,
      ⟨(.l 9), .mv (.p 1), none⟩,
      ⟨(.l 10), .call (.c (.fn (.func 270) [] [])) [(.l 8), (.l 9)], none⟩,
      ⟨(.p 5), .mv (.l 10), none⟩])
    (.seq (.region [⟨(.l 11), .mv (.p 5), none⟩,
       ⟨(.l 12), .bin .geq (.l 11) (.c (.int .i64 (0))), none⟩])
     (.cond (.l 12)
      (.seq (.draw [(⟨(.l 13), .mv (.p 0), none⟩, []),
         (⟨(.l 14), .mv (.p 5), none⟩, [0]),
         (⟨(.l 15), .slice .str 1 (.l 13) none (some (.l 14)) none, none⟩, []),
         (⟨(.l 16), .mv (.p 0), none⟩, [0, 1, 2]),
         (⟨(.l 17), .mv (.p 5), none⟩, [0, 1, 2, 3]),
         (⟨(.l 18), .mv (.p 1), none⟩, [0, 1, 2, 3, 4]),
         (⟨(.l 19), .len .str (.l 18), none⟩, [0, 1, 2, 3, 4]),
         (⟨(.l 20), .bin .add (.l 17) (.l 19), none⟩, [0, 1, 2, 3]),
         (⟨(.l 21), .slice .str 1 (.l 16) (some (.l 20)) none none, none⟩, [0, 1, 2]),
         (⟨(.p 2), .mv (.l 15), none⟩, [3, 4, 5, 6, 7, 8]),
         (⟨(.p 3), .mv (.l 21), none⟩, []),
         (⟨(.p 4), .mv (.c (.bool true)), none⟩, [])])
       (.ret))
      (.skip))))
   (.seq (.region [⟨(.l 22), .mv (.p 0), none⟩,
      ⟨(.p 2), .mv (.l 22), none⟩,
      ⟨(.p 3), .mv (.c (.str [])), none⟩,
      ⟨(.p 4), .mv (.c (.bool false)), none⟩])
    (.ret)))
theorem ft210 : FT 210 = some ⟨23, [0, 1, 4, 5, 6, 7], [.var (.p 2), .var (.p 3), .var (.p 4)], b210⟩ := by kernel_rfl

def b273_0 : ICode :=
 .seq (.seq (.region [⟨(.l 6), .mv (.p 3), none⟩,
     ⟨(.l 7), .mv (.p 0), none⟩,
     ⟨(.l 8), .len .str (.l 7), none⟩,
     ⟨(.l 9), .bin .lss (.l 6) (.l 8), none⟩])
   (.cond (.l 9)
    (.skip)
    (.exit 0)))
  (.seq (.block 1
    (.seq (.region [⟨(.l 12), .mv (.p 0), none⟩,
       ⟨(.l 13), .mv (.p 3), none⟩,
       ⟨(.l 14), .index (.l 12) (.l 13), none⟩,
       ⟨(.p 4), .mv (.l 14), none⟩])
     (.seq (.seq (.region [⟨(.l 15), .mv (.p 4), none⟩,
         ⟨(.l 16), .bin .geq (.l 15) (.c (.int .u8 (128))), none⟩])
       (.cond (.l 16)
        (.seq (.region [⟨(.l 17), .load 256 true (.p 1), none⟩,
           ⟨.no, .store 256 (.p 1) (.l 17), none⟩,
           ⟨(.p 2), .mv (.c (.bool false)), none⟩])
         (.ret))
        (.skip)))
      (.region [⟨(.l 18), .mv (.p 4), none⟩,
        ⟨(.l 19), .iaddr (some 256) 1 (.p 1) (.l 18), none⟩,
        ⟨.no, .store 1 (.l 19) (.c (.bool true)), none⟩]))))
   (.region [⟨(.l 10), .mv (.p 3), none⟩,
     ⟨(.l 11), .bin .add (.l 10) (.c (.int .i64 (1))), none⟩,
     ⟨(.p 3), .mv (.l 11), none⟩]))
/-- strings.makeASCIISet -/
def b273 : ICode :=
 .seq (.region [⟨(.p 1), .alloc 314 no256, none⟩,
    ⟨(.p 2), .mv (.c (.bool false)), none⟩])
  (.seq (.seq (.region [⟨(.p 3), .mv (.c (.int .i64 (0))), none⟩])
    (.block 0
     (.loop b273_0)))
   (.seq (.region [⟨(.l 20), .load 256 true (.p 1), none⟩,
      ⟨.no, .store 256 (.p 1) (.l 20), none⟩,
      ⟨(.p 2), .mv (.c (.bool true)), none⟩])
    (.ret)))
theorem ft273 : FT 273 = some ⟨21, [0, 2, 3, 4, 5], [.cell 256 true (.p 1), .var (.p 2)], b273⟩ := by kernel_rfl

def b274_0 : ICode :=
 .seq (.seq (.region [⟨(.l 5), .mv (.p 0), none⟩,
     ⟨(.l 6), .len .str (.l 5), none⟩,
     ⟨(.l 7), .bin .gtr (.l 6) (.c (.int .i64 (0))), none⟩])
   (.cond (.l 7)
    (.skip)
    (.exit 0)))
  (.block 1
   (.seq (.seq (.region [⟨(.l 8), .mv (.p 1), none⟩,
       ⟨(.l 9), .mv (.p 0), none⟩,
       ⟨(.l 10), .index (.l 9) (.c (.int .i64 (0))), none⟩,
       ⟨(.l 11), .call (.c (.fn (.func 320) [] [])) [(.l 8), (.l 10)], none⟩,
       ⟨(.l 12), .un .not (.l 11), none⟩])
     (.cond (.l 12)
      (.exit 0)
      (.skip)))
    (.region [⟨(.l 13), .mv (.p 0), none⟩,
      ⟨(.l 14), .slice .str 1 (.l 13) (some (.c (.int .i64 (1)))) none none, none⟩,
      ⟨(.p 0), .mv (.l 14), none⟩])))
/-- strings.trimLeftASCII -/
def b274 : ICode :=
 .seq (.region [⟨(.p 2), .mv (.c (.str [])), none⟩])
  (.seq (.block 0
    (.loop b274_0))
   (.seq (.region [⟨(.l 15), .mv (.p 0), none⟩,
      ⟨(.p 2), .mv (.l 15), none⟩])
    (.ret)))
theorem ft274 : FT 274 = some ⟨16, [0, 1, 4], [.var (.p 2)], b274⟩ := by kernel_rfl

def b275_0 : ICode :=
 .seq (.seq (.region [⟨(.l 5), .mv (.p 0), none⟩,
     ⟨(.l 6), .len .str (.l 5), none⟩,
     ⟨(.l 7), .bin .gtr (.l 6) (.c (.int .i64 (0))), none⟩])
   (.cond (.l 7)
    (.skip)
    (.exit 0)))
  (.block 1
   (.seq (.seq (.region [⟨(.l 8), .mv (.p 1), none⟩,
       ⟨(.l 9), .mv (.p 0), none⟩,
       ⟨(.l 10), .mv (.p 0), none⟩,
       ⟨(.l 11), .len .str (.l 10), none⟩,
       ⟨(.l 12), .bin .sub (.l 11) (.c (.int .i64 (1))), none⟩,
       ⟨(.l 13), .index (.l 9) (.l 12), none⟩,
       ⟨(.l 14), .call (.c (.fn (.func 320) [] [])) [(.l 8), (.l 13)], none⟩,
       ⟨(.l 15), .un .not (.l 14), none⟩])
     (.cond (.l 15)
      (.exit 0)
      (.skip)))
    (.region [⟨(.l 16), .mv (.p 0), none⟩,
      ⟨(.l 17), .mv (.p 0), none⟩,
      ⟨(.l 18), .len .str (.l 17), none⟩,
      ⟨(.l 19), .bin .sub (.l 18) (.c (.int .i64 (1))), none⟩,
      ⟨(.l 20), .slice .str 1 (.l 16) none (some (.l 19)) none, none⟩,
      ⟨(.p 0), .mv (.l 20), none⟩])))
/-- strings.trimRightASCII -/
def b275 : ICode :=
 .seq (.region [⟨(.p 2), .mv (.c (.str [])), none⟩])
  (.seq (.block 0
    (.loop b275_0))
   (.seq (.region [⟨(.l 21), .mv (.p 0), none⟩,
      ⟨(.p 2), .mv (.l 21), none⟩])
    (.ret)))
theorem ft275 : FT 275 = some ⟨22, [0, 1, 4], [.var (.p 2)], b275⟩ := by kernel_rfl

def b278_0 : ICode :=
 .seq (.region [⟨(.l 50), .bin .lss (.p 11) (.p 10), none⟩])
  (.seq (.cond (.l 50)
    (.skip)
    (.exit 0))
   (.seq (.block 1
     (.seq (.region [⟨(.l 51), .iaddr none 1 (.p 9) (.p 11), none⟩,
        ⟨(.l 52), .load 1 false (.l 51), none⟩,
        ⟨(.p 6), .mv (.l 52), none⟩])
      (.seq (.region [⟨(.l 53), .mv (.p 6), none⟩,
         ⟨(.l 54), .bin .sub (.l 53) (.c (.int .u8 (48))), none⟩,
         ⟨(.p 6), .mv (.l 54), none⟩])
       (.seq (.seq (.region [⟨(.l 55), .mv (.p 6), none⟩,
           ⟨(.l 56), .bin .gtr (.l 55) (.c (.int .u8 (9))), none⟩])
         (.cond (.l 56)
          (.seq (.region [⟨(.l 57), .mkiface 347 (.c (.int .i64 (2))), none⟩,
             ⟨(.p 1), .mv (.c (.int .i64 (0))), none⟩,
             ⟨(.p 2), .mv (.l 57), none⟩])
           (.ret))
          (.skip)))
        (.region [⟨(.l 58), .mv (.p 5), none⟩,
          ⟨(.l 59), .bin .mul (.l 58) (.c (.int .i64 (10))), none⟩,
          ⟨(.l 60), .mv (.p 6), none⟩,
          ⟨(.l 61), .convInt .i64 (.l 60), none⟩,
          ⟨(.l 62), .bin .add (.l 59) (.l 61), none⟩,
          ⟨(.p 5), .mv (.l 62), none⟩])))))
    (.region [⟨(.l 63), .bin .add (.p 11) (.c (.int .i64 (1))), none⟩,
      ⟨(.p 11), .mv (.l 63), none⟩])))
/-- internal/strconv.Atoi -/
def b278 : ICode :=
 .seq (.region [⟨(.p 1), .mv (.c (.int .i64 (0))), none⟩,
    ⟨(.p 2), .mv (.c (.niliface)), none⟩])
  (.seq (.region [⟨(.l 11), .mv (.p 0), none⟩,
     ⟨(.l 12), .len .str (.l 11), none⟩,
     ⟨(.p 3), .mv (.l 12), none⟩])
   (.seq (.seq (.region [⟨(.l 13), .mv (.c (.bool false)), none⟩,
       ⟨(.l 14), .mv (.p 3), some ((.l 13), true)⟩,
       ⟨(.l 15), .bin .lss (.c (.int .i64 (0))) (.l 14), some ((.l 13), true)⟩,
       ⟨(.l 16), .mv (.l 15), some ((.l 13), true)⟩,
       ⟨(.l 17), .mv (.p 3), some ((.l 16), true)⟩,
       ⟨(.l 18), .bin .lss (.l 17) (.c (.int .i64 (10))), some ((.l 16), true)⟩,
       ⟨(.l 19), .pick (.l 16) (.l 18) (.c (.bool false)), some ((.l 13), true)⟩,
       ⟨(.l 20), .pick (.l 13) (.l 19) (.c (.bool false)), none⟩,
       ⟨(.l 21), .mv (.l 20), none⟩,
       ⟨(.l 22), .mv (.c (.bool true)), some ((.l 21), false)⟩,
       ⟨(.l 23), .mv (.p 3), some ((.l 22), true)⟩,
       ⟨(.l 24), .bin .lss (.c (.int .i64 (0))) (.l 23), some ((.l 22), true)⟩,
       ⟨(.l 25), .mv (.l 24), some ((.l 22), true)⟩,
       ⟨(.l 26), .mv (.p 3), some ((.l 25), true)⟩,
       ⟨(.l 27), .bin .lss (.l 26) (.c (.int .i64 (19))), some ((.l 25), true)⟩,
       ⟨(.l 28), .pick (.l 25) (.l 27) (.c (.bool false)), some ((.l 22), true)⟩,
       ⟨(.l 29), .pick (.l 22) (.l 28) (.c (.bool false)), some ((.l 21), false)⟩,
       ⟨(.l 30), .pick (.l 21) (.c (.bool true)) (.l 29), none⟩])
     (.cond (.l 30)
      (.seq (.region [⟨(.l 31), .mv (.p 0), none⟩,
         ⟨(.p 4), .mv (.l 31), none⟩])
       (.seq (.seq (.region [⟨(.l 32), .mv (.p 0), none⟩,
           ⟨(.l 33), .index (.l 32) (.c (.int .i64 (0))), none⟩,
           ⟨(.l 34), .bin .eql (.l 33) (.c (.int .u8 (45))), none⟩,
           ⟨(.l 35), .mv (.l 34), none⟩,
           ⟨(.l 36), .mv (.p 0), some ((.l 35), false)⟩,
           ⟨(.l 37), .index (.l 36) (.c (.int .i64 (0))), some ((.l 35), false)⟩,
           ⟨(.l 38), .bin .eql (.l 37) (.c (.int .u8 (43))), some ((.l 35), false)⟩,
           ⟨(.l 39), .pick (.l 35) (.c (.bool true)) (.l 38), none⟩])
         (.cond (.l 39)
          (.seq (.region [⟨(.l 40), .mv (.p 0), none⟩,
             ⟨(.l 41), .slice .str 1 (.l 40) (some (.c (.int .i64 (1)))) none none, none⟩,
             ⟨(.p 0), .mv (.l 41), none⟩])
           (.seq (.region [⟨(.l 42), .mv (.p 0), none⟩,
              ⟨(.l 43), .len .str (.l 42), none⟩,
              ⟨(.l 44), .bin .lss (.l 43) (.c (.int .i64 (1))), none⟩])
            (.cond (.l 44)
             (.seq (.region [⟨(.l 45), .mkiface 347 (.c (.int .i64 (2))), none⟩,
                ⟨(.p 1), .mv (.c (.int .i64 (0))), none⟩,
                ⟨(.p 2), .mv (.l 45), none⟩])
              (.ret))
             (.skip))))
          (.skip)))
        (.seq (.region [⟨(.p 5), .mv (.c (.int .i64 (0))), none⟩])
         (.seq (.seq (.region [⟨(.l 46), .mv (.p 0), none⟩,
             ⟨(.p 9), .convBytes 5 (.l 46), none⟩,
             ⟨(.p 10), .len .sl (.p 9), none⟩,
             ⟨(.p 11), .mv (.c (.int .i64 (0))), none⟩])
           (.block 0
            (.loop b278_0)))
          (.seq (.seq (.region [⟨(.l 64), .mv (.p 4), none⟩,
              ⟨(.l 65), .index (.l 64) (.c (.int .i64 (0))), none⟩,
              ⟨(.l 66), .bin .eql (.l 65) (.c (.int .u8 (45))), none⟩])
            (.cond (.l 66)
             (.region [⟨(.l 67), .mv (.p 5), none⟩,
               ⟨(.l 68), .un .neg (.l 67), none⟩,
               ⟨(.p 5), .mv (.l 68), none⟩])
             (.skip)))
           (.seq (.region [⟨(.l 69), .mv (.p 5), none⟩,
              ⟨(.p 1), .mv (.l 69), none⟩,
              ⟨(.p 2), .mv (.c (.niliface)), none⟩])
            (.ret)))))))
      (.skip)))
    (.seq (.region [⟨(.l 71), .mv (.p 0), none⟩,
       ⟨(.l 72), .call (.c (.fn (.func 323) [] [])) [(.l 71), (.c (.int .i64 (10))), (.c (.int .i64 (0)))], none⟩,
       ⟨(.l 70), .mv (.l 72), none⟩,
       ⟨(.l 73), .extract 0 (.l 70), none⟩,
       ⟨(.l 74), .extract 1 (.l 70), none⟩,
       ⟨(.p 7), .mv (.l 73), none⟩,
       ⟨(.p 8), .mv (.l 74), none⟩])
     (.seq (.region [⟨(.l 75), .mv (.p 7), none⟩,
        ⟨(.l 76), .mv (.p 8), none⟩,
        ⟨(.p 1), .mv (.l 75), none⟩,
        ⟨(.p 2), .mv (.l 76), none⟩])
      (.ret)))))
theorem ft278 : FT 278 = some ⟨77, [0, 2, 3, 4, 5, 6, 8, 9, 10, 47, 48, 49], [.var (.p 1), .var (.p 2)], b278⟩ := by kernel_rfl

/-- (*strings.asciiSet).contains -/
def b320 : ICode :=
 .seq (.region [⟨(.p 2), .mv (.c (.bool false)), none⟩])
  (.seq (.region [⟨(.l 5), .mv (.p 0), none⟩,
     ⟨(.l 6), .mv (.p 1), none⟩,
     ⟨(.l 7), .nilck (.l 5), none⟩,
     ⟨(.l 8), .iaddr (some 256) 1 (.l 7) (.l 6), none⟩,
     ⟨(.l 9), .load 1 false (.l 8), none⟩,
     ⟨(.p 2), .mv (.l 9), none⟩])
   (.ret))
theorem ft320 : FT 320 = some ⟨10, [0, 1, 4], [.var (.p 2)], b320⟩ := by kernel_rfl

end Go.Ab.Ch5


/-
  Own work: HasSuffix, TrimSuffix, Cut and Split by one byte.
-/
namespace Go.Ab.Ch5
variable {M : Mach} {cap : Option Nat}

def endB (b : UInt8) (s : Str) : Bool := decide (s.getLast? = some b)
structure CU (M : Mach) : Prop extends C162 M where
  n159 : ∀ ars h, M.ext 159 ars h = none
  n164 : ∀ ars h, M.ext 164 ars h = none
  n210 : ∀ ars h, M.ext 210 ars h = none
  n163 : ∀ ars h, M.ext 163 ars h = none
  n215 : ∀ ars h, M.ext 215 ars h = none
  c282 : ∀ (s : Str) (c : Int) h, M.ext 282 [.str s, .int .u8 c] h = some ⟨.int .i64 ((ByteArray.mk s.toArray).foldl (fun n x => if x == c.toNat.toUInt8 then n + 1 else n) ((0 : Nat) : Int)), h, []⟩
theorem r159 (C : CU M) (s : Str) (b : UInt8) (hl : s.length < 1000000) (H : Heap) : CT M (fnV 159) [.str s, .str [b]] H ⟨.bool (endB b s), H, []⟩ := by
  refine CT.run (C.n159 _ _) (run_same (by rw [C.ft]; exact ft159) (by simp) ?_)
  simp only [List.nil_append, List.append_nil]
  have hn1 : ([b] : Str).length = 1 := rfl
  rcases List.eq_nil_or_concat s with rfl | ⟨t, c, e⟩
  · have h0 : ([] : Str).length = 0 := rfl
    unfold b159
    simp only [List.map_cons, List.map_nil, List.getElem?_cons_zero, List.getElem?_cons_succ, List.getElem?_nil, Option.getD_some, Option.getD_none]
    repeat' first | apply W.seq | apply SQn | apply W.region | apply WO.nil | apply W.ret | (apply WO.sT; exact rfl) | (apply WO.geq; exact rfl; exact rfl; all_goals first | (intro _; exfalso; omega) | intro _) | (apply WO.pkF; exact rfl; exact rfl) | (apply WO.pl; exact rfl; exact rfl) | (apply WO.pp; exact rfl; exact rfl)
    exact ⟨.inr rfl, rfl, rfl, rfl, _, rfl, rfl⟩
  · rw [List.concat_eq_append] at e
    subst e
    have hcl : (t ++ [c]).length = t.length + 1 := by simp
    have hd : (t ++ [c]).drop ((((t ++ [c]).length : Int) - (([b] : Str).length : Int)).toNat) = [c] := by
      rw [show ((((t ++ [c]).length : Int) - (([b] : Str).length : Int)).toNat) = t.length by omega]; simp
    have he : endB b (t ++ [c]) = decide (c = b) := by simp [endB]
    rw [he]
    unfold b159
    simp only [List.map_cons, List.map_nil, List.getElem?_cons_zero, List.getElem?_cons_succ, List.getElem?_nil, Option.getD_some, Option.getD_none]
    by_cases hc : c = b
    · subst hc
      rw [decide_eq_true rfl]
      repeat' first | (apply WO.sse; exact rfl; exact rfl; omega; exact hd) | (apply WO.seql; exact rfl; exact rfl; intro _; rotate_left; (intro h; exact absurd rfl h)) | apply W.seq | apply SQn | apply W.region | apply WO.nil | apply W.ret | (apply WO.gT; exact rfl) | (apply WO.geq; exact rfl; exact rfl; all_goals first | (intro _; exfalso; omega) | intro _) | (apply WO.pkT; exact rfl; exact rfl) | (apply WO.sub; exact rfl; exact rfl; omega) | (apply WO.pl; exact rfl; exact rfl) | (apply WO.pp; exact rfl; exact rfl)
      exact ⟨.inr rfl, rfl, rfl, rfl, _, rfl, rfl⟩
    · rw [decide_eq_false hc]
      repeat' first | (apply WO.sse; exact rfl; exact rfl; omega; exact hd) | (apply WO.seql; exact rfl; exact rfl; (intro h; exact absurd (List.cons.inj h).1 hc); intro _) | apply W.seq | apply SQn | apply W.region | apply WO.nil | apply W.ret | (apply WO.gT; exact rfl) | (apply WO.geq; exact rfl; exact rfl; all_goals first | (intro _; exfalso; omega) | intro _) | (apply WO.pkT; exact rfl; exact rfl) | (apply WO.sub; exact rfl; exact rfl; omega) | (apply WO.pl; exact rfl; exact rfl) | (apply WO.pp; exact rfl; exact rfl)
      exact ⟨.inr rfl, rfl, rfl, rfl, _, rfl, rfl⟩
theorem r164 (C : CU M) (s : Str) (b : UInt8) (hl : s.length < 1000000) (H : Heap) : CT M (fnV 164) [.str s, .str [b]] H ⟨.str (if endB b s then s.dropLast else s), H, []⟩ := by
  have hc := r159 C s b hl H
  have hn1 : ([b] : Str).length = 1 := rfl
  refine CT.run (C.n164 _ _) (run_same (by rw [C.ft]; exact ft164) (by simp) ?_)
  simp only [List.nil_append, List.append_nil]
  cases he : endB b s with
  | true =>
    rw [he] at hc
    have hne : s ≠ [] := by rintro rfl; simp [endB] at he
    have hpos : 0 < s.length := List.length_pos_iff.2 hne
    have hd : s.take (((s.length : Int) - (([b] : Str).length : Int)).toNat) = s.dropLast := by
      rw [show ((s.length : Int) - (([b] : Str).length : Int)).toNat = s.length - 1 by omega, List.dropLast_eq_take]
    unfold b164
    simp only [List.map_cons, List.map_nil, List.getElem?_cons_zero, List.getElem?_cons_succ, List.getElem?_nil, Option.getD_some, Option.getD_none]
    repeat' first | (apply WO.ssb; exact rfl; exact rfl; omega; exact hd) | apply W.seq | apply SQn | apply W.region | apply WO.nil | apply W.ret | apply SQr | (apply W.condT; exact rfl) | (apply WO.sub; exact rfl; exact rfl; omega) | (apply WO.ct; exact rfl; exact rfl; first | exact hc) | (apply WO.pl; exact rfl; exact rfl) | (apply WO.pp; exact rfl; exact rfl)
    exact ⟨.inr rfl, rfl, rfl, rfl, _, rfl, rfl⟩
  | false =>
    rw [he] at hc
    unfold b164
    simp only [List.map_cons, List.map_nil, List.getElem?_cons_zero, List.getElem?_cons_succ, List.getElem?_nil, Option.getD_some, Option.getD_none]
    repeat' first | apply W.seq | apply SQn | apply W.region | apply WO.nil | apply W.ret | apply W.skip | (apply W.condF; exact rfl) | (apply WO.ct; exact rfl; exact rfl; first | exact hc) | (apply WO.pl; exact rfl; exact rfl) | (apply WO.pp; exact rfl; exact rfl)
    exact ⟨.inr rfl, rfl, rfl, rfl, _, rfl, rfl⟩
theorem w92 (C : CU M) (s : Str) (b : UInt8) (hl : s.length < 1000000) : Run M 92 [.str s, .str [b]] [] ⟨.bool (endB b s), [], []⟩ := by
  have hc := r159 C s b hl []
  refine run_of_W (by rw [C.ft]; exact ft92) (by simp) ?_
  unfold b92
  simp only [List.map_cons, List.map_nil, List.getElem?_cons_zero, List.getElem?_cons_succ, List.getElem?_nil, Option.getD_some, Option.getD_none]
  repeat' first | apply W.seq | apply SQn | apply W.region | apply WO.nil | apply W.ret | (apply WO.ct; exact rfl; exact rfl; first | exact hc) | (apply WO.pl; exact rfl; exact rfl) | (apply WO.pp; exact rfl; exact rfl)
  exact ⟨.inr rfl, rfl, _, rfl, rfl, rfl⟩
theorem w95 (C : CU M) (s : Str) (b : UInt8) (hl : s.length < 1000000) : Run M 95 [.str s, .str [b]] [] ⟨.str (if endB b s then s.dropLast else s), [], []⟩ := by
  have hc := r164 C s b hl []
  refine run_of_W (by rw [C.ft]; exact ft95) (by simp) ?_
  unfold b95
  simp only [List.map_cons, List.map_nil, List.getElem?_cons_zero, List.getElem?_cons_succ, List.getElem?_nil, Option.getD_some, Option.getD_none]
  repeat' first | apply W.seq | apply SQn | apply W.region | apply WO.nil | apply W.ret | (apply WO.ct; exact rfl; exact rfl; first | exact hc) | (apply WO.pl; exact rfl; exact rfl) | (apply WO.pp; exact rfl; exact rfl)
  exact ⟨.inr rfl, rfl, _, rfl, rfl, rfl⟩

/-! Cut. -/
def cutV (b : UInt8) (s : Str) : AV := .tup [.str (spl1 b s).1, .str ((spl1 b s).2.getD []), .bool (spl1 b s).2.isSome]
theorem spl_len {b : UInt8} {s y : Str} (h : (spl1 b s).2 = some y) : s.length = (spl1 b s).1.length + 1 + y.length := by
  have := congrArg List.length (spl1_some h).1
  simp only [List.length_append, List.length_cons] at this
  omega
theorem spl_take {b : UInt8} {s y : Str} (h : (spl1 b s).2 = some y) : s.take (spl1 b s).1.length = (spl1 b s).1 := by
  have e := (spl1_some h).1
  generalize (spl1 b s).1 = x at e ⊢
  rw [e]; simp
theorem spl_drop {b : UInt8} {s y : Str} (h : (spl1 b s).2 = some y) : s.drop ((spl1 b s).1.length + 1) = y := by
  have e := (spl1_some h).1
  generalize (spl1 b s).1 = x at e ⊢
  rw [e]; simp
theorem r210 (C : CU M) (s : Str) (b : UInt8) (hl : s.length < 1000000) (H : Heap) : CT M (fnV 210) [.str s, .str [b]] H ⟨cutV b s, H, []⟩ := by
  have hc := r270 C.toC162 s b H
  have hn1 : ([b] : Str).length = 1 := rfl
  rw [firstIdx_spl] at hc
  refine CT.run (C.n210 _ _) (run_same (by rw [C.ft]; exact ft210) (by simp) ?_)
  simp only [List.nil_append, List.append_nil]
  cases hy : (spl1 b s).2 with
  | none =>
    rw [if_pos hy] at hc
    have h1 := (spl1_none hy).1
    unfold b210
    simp only [List.map_cons, List.map_nil, List.getElem?_cons_zero, List.getElem?_cons_succ, List.getElem?_nil, Option.getD_some, Option.getD_none]
    repeat' first | apply W.seq | apply SQn | apply W.region | apply WO.nil | apply W.ret | apply W.skip | (apply W.condF; exact rfl) | (apply WO.geq; exact rfl; exact rfl; all_goals first | (intro _; exfalso; omega) | intro _) | (apply WO.ct; exact rfl; exact rfl; first | exact hc) | (apply WO.pl; exact rfl; exact rfl) | (apply WO.pp; exact rfl; exact rfl)
    refine ⟨.inr rfl, rfl, rfl, rfl, _, rfl, ?_⟩
    simp only [cutV, hy, h1]
    rfl
  | some y =>
    rw [if_neg (by rw [hy]; simp)] at hc
    have h1 := spl_len hy
    have h2 := spl_take hy
    have h3 := spl_drop hy
    generalize hx : (spl1 b s).1 = x at h1 h2 h3 hc
    unfold b210
    simp only [List.map_cons, List.map_nil, List.getElem?_cons_zero, List.getElem?_cons_succ, List.getElem?_nil, Option.getD_some, Option.getD_none]
    repeat' first | (apply WO.ssb (r := x); exact rfl; exact rfl; omega; (rw [Int.toNat_natCast]; exact h2)) | (apply WO.sse (r := y); exact rfl; exact rfl; omega; (rw [show ((x.length : Int) + (([b] : Str).length : Int)).toNat = x.length + 1 by omega]; exact h3)) | apply W.seq | apply SQn | apply W.region | apply WO.nil | apply W.ret | apply SQr | (apply W.drawro; exact rfl) | (apply W.condT; exact rfl) | (apply WO.geq; exact rfl; exact rfl; all_goals first | (intro _; exfalso; omega) | intro _) | (apply WO.add; exact rfl; exact rfl; omega) | (apply WO.ct; exact rfl; exact rfl; first | exact hc) | (apply WO.pl; exact rfl; exact rfl) | (apply WO.pp; exact rfl; exact rfl)
    refine ⟨.inr rfl, rfl, rfl, rfl, _, rfl, ?_⟩
    simp only [cutV, hy, hx]
    rfl
theorem w160 (C : CU M) (s : Str) (b : UInt8) (hl : s.length < 1000000) : Run M 160 [.str s, .str [b]] [] ⟨cutV b s, [], []⟩ := by
  have hc := r210 C s b hl []
  unfold cutV at hc ⊢
  refine run_of_W (by rw [C.ft]; exact ft160) (by simp) ?_
  unfold b160
  simp only [List.map_cons, List.map_nil, List.getElem?_cons_zero, List.getElem?_cons_succ, List.getElem?_nil, Option.getD_some, Option.getD_none]
  repeat' first | apply W.seq | apply SQn | apply W.region | apply WO.nil | apply W.ret | (apply WO.ct; exact rfl; exact rfl; first | exact hc) | (apply WO.pl; exact rfl; exact rfl) | (apply WO.pp; exact rfl; exact rfl)
  exact ⟨.inr rfl, rfl, _, rfl, rfl, rfl⟩
end Go.Ab.Ch5


/-
  Own work: Split by one byte.
-/
namespace Go.Ab.Ch5
variable {M : Mach} {cap : Option Nat}

theorem r215 (C : CU M) (s : Str) (b : UInt8) (H : Heap) : CT M (fnV 215) [.str s, .str [b]] H ⟨.int .i64 (cntB b s), H, []⟩ := by
  have hc := C.c282 s b.toNat H
  rw [toU8, count_spl] at hc
  have hn1 : ([b] : Str).length = 1 := rfl
  refine CT.run (C.n215 _ _) (run_same (by rw [C.ft]; exact ft215) (by simp) ?_)
  simp only [List.nil_append, List.append_nil]
  unfold b215
  simp only [List.map_cons, List.map_nil, List.getElem?_cons_zero, List.getElem?_cons_succ, List.getElem?_nil, Option.getD_some, Option.getD_none]
  repeat' first | apply W.seq | apply SQn | apply W.region | apply WO.nil | apply W.ret | apply W.skip | apply SQr | (apply W.condT; exact rfl) | (apply W.condF; exact rfl) | (apply WO.eql; exact rfl; exact rfl; all_goals first | (intro _; exfalso; omega) | intro _) | (apply WO.cll; exact rfl; exact rfl; first | exact hc) | (apply WO.idx; exact rfl; exact rfl; omega) | (apply WO.pl; exact rfl; exact rfl) | (apply WO.pp; exact rfl; exact rfl)
  exact ⟨.inr rfl, rfl, rfl, rfl, _, rfl, rfl⟩
theorem WO.mkS' {t : Nat} {x : IOpd} {l : List IOper} {pe : List AV} {lo : List (Nat × AV)} {hp : Heap} {df wr : List Nat} {k : Nat} {Q : StW → Prop} (hx : (St.mk pe lo hp df).opd x = some (.int .i64 k)) (hk : k < 1000000)
    (h : WO M l ⟨⟨pe, (t, .sl hp.length 0 k 1 (some k)) :: lo, hp ++ [some (.cells (strs (List.replicate k [])) 9)], df⟩, wr⟩ Q) : WO M (⟨.l t, .mkslice 9 1 16 [.str []] x x, none⟩ :: l) ⟨⟨pe, lo, hp, df⟩, wr⟩ Q := by
  refine WO.mks hx hx ⟨by omega, Int.le_refl _, by unfold roomLimit; omega, by omega, rfl⟩ ?_
  rw [Int.toNat_natCast, rz_strs]
  exact h
theorem set_mid (d : List Str) (k : Nat) (x : Str) : (d ++ List.replicate (k + 1) []).set d.length x = (d ++ [x]) ++ List.replicate k [] := by
  rw [List.set_append_right _ _ (Nat.le_refl _), Nat.sub_self, List.replicate_succ, List.set_cons_zero, List.append_assoc]
  rfl
theorem loop163 (C : CU M) (b : UInt8) (n : Nat) (hn : n < 1000000) (L : List Str) {Q : Ex → StW → Prop} : ∀ (r : Nat) (d : List Str) (t : Str) (a7 : AV) (lo : List (Nat × AV)) (wr : List Nat), d.length + r + 1 = n → cntB b t = r → t.length < 1000000 → d ++ splitL b t = L →
    (∀ d t a7 lo wr, d.length + 1 = n → d ++ [t] = L → Q (.exit 0) ⟨⟨[.str t, .str [b], .int .i64 0, .int .i64 ((n : Int) - 1), .nilsl, .sl 0 0 n 1 (some n), .int .i64 d.length, a7], lo, [some (.cells (strs (d ++ List.replicate 1 [])) 9)], []⟩, wr⟩) →
    W M (.loop b163_0) ⟨⟨[.str t, .str [b], .int .i64 0, .int .i64 ((n : Int) - 1), .nilsl, .sl 0 0 n 1 (some n), .int .i64 d.length, a7], lo, [some (.cells (strs (d ++ List.replicate (r + 1) [])) 9)], []⟩, wr⟩ Q := by
  intro r
  induction r with
  | zero =>
    intro d t a7 lo wr h1 h2 h3 h4 hQ
    have h0 := spl1_none (spl1_noneI h2)
    rw [h0.2.1] at h4
    refine W.loop ?_
    unfold b163_0
    repeat' first | apply W.seq | apply SQn | apply W.region | apply WO.nil | apply W.exit | apply SQe | apply LQe | (apply W.condF; exact rfl) | (apply WO.lss; exact rfl; exact rfl; all_goals first | (intro _; exfalso; omega) | intro _) | (apply WO.pl; exact rfl; exact rfl)
    exact hQ _ _ _ _ _ (by omega) h4
  | succ r ih =>
    intro d t a7 lo wr h1 h2 h3 h4 hQ
    have hi := r213 C.toC162 t b [some (.cells (strs (d ++ List.replicate (r + 1 + 1) [])) 9)]
    rw [firstIdx_spl] at hi
    have hn1 : ([b] : Str).length = 1 := rfl
    cases hy : (spl1 b t).2 with
    | none =>
      have := (spl1_none hy).2.2
      omega
    | some y =>
      rw [if_neg (by rw [hy]; simp)] at hi
      have g1 := spl_len hy
      have g2 := spl_take hy
      have g3 := spl_drop hy
      have g4 := spl1_some hy
      generalize hx : (spl1 b t).1 = x at g1 g2 g3 g4 hi
      have hlen : (d ++ List.replicate (r + 1 + 1) ([] : Str)).length = n := by simp; omega
      refine W.loop ?_
      unfold b163_0
      repeat' first | (apply WO.ssb (r := x); exact rfl; exact rfl; omega; (rw [show ((x.length : Int) + 0).toNat = x.length by omega]; exact g2)) | (apply WO.sse (r := y); exact rfl; exact rfl; omega; (rw [show ((x.length : Int) + (([b] : Str).length : Int)).toNat = x.length + 1 by omega]; exact g3)) | apply W.seq | apply SQn | apply W.region | apply WO.nil | apply W.block | apply W.skip | apply BQn | (apply W.condT; exact rfl) | (apply W.condF; exact rfl) | (apply WO.lss; exact rfl; exact rfl; all_goals first | (intro _; exfalso; omega) | intro _) | (apply WO.add; exact rfl; exact rfl; omega) | (apply WO.ct; exact rfl; exact rfl; first | exact hi) | (apply WO.ias; exact rfl; exact rfl; omega) | (apply WO.sta; exact rfl; exact rfl; (first | exact rfl | assumption | exact at_new | (apply at_old; assumption) | (apply at_put; first | assumption | (simp only [put_length]; assumption))); exact fun _ => rfl; (first | omega | (simp only [List.length_set]; omega) | (simp; omega)); exact ⟨rfl, by decide, rfl⟩; exact rfl; case ia => infer_instance) | (apply WO.pl; exact rfl; exact rfl) | (apply WO.pp; exact rfl; exact rfl)
      refine LQn ?_
      have e := ih (d ++ [x]) y (.int .i64 (x.length : Nat)) [(57, .int .i64 ((d.length : Int) + 1)), (56, .int .i64 d.length)] (0 :: ([] ++ wr)) (by simp; omega) (by omega) (by omega) (by rw [← h4, g4.2.1]; simp) hQ
      rw [show ((d ++ [x]).length : Int) = (d.length : Int) + 1 by simp, ← set_mid d (r + 1) x] at e
      rw [show ((d.length : Int)).toNat = d.length from Int.toNat_natCast _]
      exact e
theorem r163 (C : CU M) (s : Str) (b : UInt8) (hl : s.length < 500000) : CT M (fnV 163) [.str s, .str [b], .int .i64 0, .int .i64 (-1)] [] ⟨.sl 0 0 (splitL b s).length 1 (some (splitL b s).length), [some (.cells (strs (splitL b s)) 9)], []⟩ := by
  have hc := r215 C s b []
  have hle := cntB_le b s
  have hL := splitL_len b s
  generalize hn : (splitL b s).length = n at hL
  have e1 : (cntB b s : Int) + 1 = (n : Int) := by omega
  rw [show (cntB b s : Int) = (n : Int) - 1 by omega] at hc
  have hn1 : ([b] : Str).length = 1 := rfl
  refine CT.run (C.n163 _ _) ?_
  simp only [List.nil_append, List.append_nil]
  refine run_of_W (by rw [C.ft]; exact ft163) (by simp) ?_
  unfold b163
  simp only [List.map_cons, List.map_nil, List.getElem?_cons_zero, List.getElem?_cons_succ, List.getElem?_nil, Option.getD_some, Option.getD_none]
  repeat' first | (apply WO.seql; exact rfl; exact rfl; (intro h; exact absurd h (by simp)); intro _) | (apply WO.min2 (m := (n : Int)); exact rfl; exact rfl; omega) | (apply WO.mkS' (k := n); exact rfl; omega) | apply W.seq | apply SQn | apply W.region | apply WO.nil | apply W.block | apply W.skip | (apply W.condT; exact rfl) | (apply W.condF; exact rfl) | (apply WO.lss; exact rfl; exact rfl; all_goals first | (intro _; exfalso; omega) | intro _) | (apply WO.eql; exact rfl; exact rfl; all_goals first | (intro _; exfalso; omega) | intro _) | (apply WO.add; exact rfl; exact rfl; omega) | (apply WO.sub; exact rfl; exact rfl; omega) | (apply WO.ct; exact rfl; exact rfl; first | exact hc) | (apply WO.pl; exact rfl; exact rfl) | (apply WO.pp; exact rfl; exact rfl)
  rw [show List.replicate n ([] : Str) = [] ++ List.replicate (cntB b s + 1) [] by rw [hL]; rfl]
  refine loop163 C b n (by omega) (splitL b s) (cntB b s) [] s _ _ _ (by simp; omega) rfl (by omega) (by simp) (fun d t a7 lo wr h1 h2 => ?_)
  have hlen : (d ++ List.replicate 1 ([] : Str)).length = n := by simp; omega
  repeat' first | (apply WO.slq (k := n); exact rfl; (exact congrArg some (congrArg (AV.int .i64) (by omega))); omega) | apply W.seq | apply SQn | apply W.region | apply WO.nil | apply W.ret | apply BQe | (apply WO.add; exact rfl; exact rfl; omega) | (apply WO.ias; exact rfl; exact rfl; omega) | (apply WO.sta; exact rfl; exact rfl; (first | exact rfl | assumption | exact at_new | (apply at_old; assumption) | (apply at_put; first | assumption | (simp only [put_length]; assumption))); exact fun _ => rfl; (first | omega | (simp only [List.length_set]; omega) | (simp; omega)); exact ⟨rfl, by decide, rfl⟩; exact rfl; case ia => infer_instance) | (apply WO.pl; exact rfl; exact rfl) | (apply WO.pp; exact rfl; exact rfl)
  have he : (d ++ List.replicate 1 ([] : Str)).set ((d.length : Int)).toNat t = splitL b s := by
    rw [Int.toNat_natCast, set_mid d 0 t, ← h2]
    simp
  rw [he]
  exact ⟨.inr rfl, rfl, _, rfl, rfl, rfl⟩
theorem w94 (C : CU M) (s : Str) (b : UInt8) (hl : s.length < 500000) : Run M 94 [.str s, .str [b]] [] ⟨.sl 0 0 (splitL b s).length 1 (some (splitL b s).length), [some (.cells (strs (splitL b s)) 9)], []⟩ := by
  have hc := r163 C s b hl
  refine run_of_W (by rw [C.ft]; exact ft94) (by simp) ?_
  unfold b94
  simp only [List.map_cons, List.map_nil, List.getElem?_cons_zero, List.getElem?_cons_succ, List.getElem?_nil, Option.getD_some, Option.getD_none]
  repeat' first | apply W.seq | apply SQn | apply W.region | apply WO.nil | apply W.ret | (apply WO.ct; exact rfl; exact rfl; first | exact hc) | (apply WO.pl; exact rfl; exact rfl) | (apply WO.pp; exact rfl; exact rfl)
  exact ⟨.inr rfl, rfl, _, rfl, rfl, rfl⟩
end Go.Ab.Ch5


/-
  Own work: Trim by the digits.
-/
namespace Go.Ab.Ch5
variable {M : Mach} {cap : Option Nat}

def digB (c : Nat) : Bool := 48 ≤ c && c < 58
@[irreducible] def dset : List AV := (List.range 256).map fun i => .bool (digB i)
def digits10 : Str := [48, 49, 50, 51, 52, 53, 54, 55, 56, 57]
set_option maxRecDepth 1000000 in
theorem ev273 (M : Mach) : callFT (evalC M.ext M.inv M.FT 100) (fun _ => some ⟨21, [0, 2, 3, 4, 5], [.cell 256 true (.p 1), .var (.p 2)], b273⟩) 273 [.str digits10] [] = some ⟨.tup [.agg dset, .bool true], [], []⟩ := by
  kernel_rfl
theorem callFT_congr {run : ICode → StW → Option (Ex × StW)} {F G : FuncId → Option IFunc} {f : FuncId} (h : F f = G f) (ars : List AV) (hp : Heap) : callFT run F f ars hp = callFT run G f ars hp := by
  simp only [callFT, h]
theorem w273 (hft : M.FT = FT) : Run M 273 [.str digits10] [] ⟨.tup [.agg dset, .bool true], [], []⟩ := by
  have h2 : M.FT 273 = (fun _ => some ⟨21, [0, 2, 3, 4, 5], [.cell 256 true (.p 1), .var (.p 2)], b273⟩ : FuncId → Option IFunc) 273 := by rw [hft]; exact ft273
  exact ⟨100, (callFT_congr h2 _ _).trans (ev273 M)⟩
abbrev isD (b : UInt8) : Bool := digB b.toNat
structure CT211 (M : Mach) : Prop where
  ft : M.FT = FT
  n320 : ∀ ars h, M.ext 320 ars h = none
  n274 : ∀ ars h, M.ext 274 ars h = none
  n275 : ∀ ars h, M.ext 275 ars h = none
  c273 : ∀ h, M.ext 273 [.str digits10] h = some ⟨.tup [.agg dset, .bool true], h, []⟩
theorem dset_get {c : Nat} (h : c < 256) : dset[c]? = some (.bool (digB c)) := by
  simp [dset, h]
theorem dset_part {c : UInt8} : partOf (dset.drop (0 + ((c.toNat : Int)).toNat * 1)) 0 1 false = some (.bool (isD c)) := by
  have hc : c.toNat < 256 := c.toNat_lt
  rw [part_drop, Int.toNat_natCast, Nat.zero_add, Nat.mul_one]
  simp only [partOf, Bool.false_eq_true, if_false]
  exact dset_get hc
theorem r320 (C : CT211 M) (c : UInt8) {H : Heap} {b : Nat} (hb : H.at b = some (.cells dset 314)) : CT M (fnV 320) [.ptr b 0, .int .u8 c.toNat] H ⟨.bool (isD c), H, []⟩ := by
  have hc : c.toNat < 256 := c.toNat_lt
  refine CT.run (C.n320 _ _) (run_same (by rw [C.ft]; exact ft320) (by simp) ?_)
  simp only [List.nil_append, List.append_nil]
  unfold b320
  simp only [List.map_cons, List.map_nil, List.getElem?_cons_zero, List.getElem?_cons_succ, List.getElem?_nil, Option.getD_some, Option.getD_none]
  repeat' first | (apply WO.iaa; exact rfl; exact rfl; omega) | (apply WO.ldj; exact rfl; exact hb; exact dset_part) | apply W.seq | apply SQn | apply W.region | apply WO.nil | apply W.ret | (apply WO.pl; exact rfl; exact rfl) | (apply WO.pp; exact rfl; exact rfl)
  exact ⟨.inr rfl, rfl, rfl, rfl, _, rfl, rfl⟩
def trimL (s : Str) : Str := s.dropWhile isD
def trimR (s : Str) : Str := (s.reverse.dropWhile isD).reverse
theorem trimR_snoc (s : Str) (c : UInt8) : trimR (s ++ [c]) = if isD c then trimR s else s ++ [c] := by
  unfold trimR
  rw [List.reverse_append, List.reverse_singleton, List.singleton_append, List.dropWhile_cons]
  split
  · rfl
  · simp
theorem loop275 (C : CT211 M) {H : Heap} {b : Nat} (hb : H.at b = some (.cells dset 314)) {Q : Ex → StW → Prop} : ∀ (n : Nat) (s : Str) (lo : List (Nat × AV)) (wr : List Nat) (_ : wr = []), s.length = n → n < 1000000 →
    (∀ lo, Q (.exit 0) ⟨⟨[.str (trimR s), .ptr b 0, .str []], lo, H, []⟩, []⟩) → W M (.loop b275_0) ⟨⟨[.str s, .ptr b 0, .str []], lo, H, []⟩, wr⟩ Q := by
  intro n
  induction n with
  | zero =>
    intro s lo wr hw hs hn hQ
    subst hw
    obtain rfl : s = [] := List.length_eq_zero_iff.1 hs
    have h0 : ([] : Str).length = 0 := rfl
    refine W.loop ?_
    unfold b275_0
    repeat' first | apply W.seq | apply SQn | apply W.region | apply WO.nil | apply W.exit | apply SQe | apply LQe | (apply W.condF; exact rfl) | (apply WO.gtr; exact rfl; exact rfl; all_goals first | (intro _; exfalso; omega) | intro _) | (apply WO.pl; exact rfl; exact rfl)
    exact hQ _
  | succ n ih =>
    intro s lo wr hw hs hn hQ
    subst hw
    rcases List.eq_nil_or_concat s with rfl | ⟨t, c, e⟩
    · cases hs
    · rw [List.concat_eq_append] at e
      subst e
      have hl : (t ++ [c]).length = t.length + 1 := by simp
      have hg : (t ++ [c])[(((t ++ [c]).length : Int) - 1).toNat]! = c := by
        rw [show (((t ++ [c]).length : Int) - 1).toNat = t.length by omega, getElem!_pos _ _ (by simp)]
        simp
      have hc := r320 C c hb
      rw [trimR_snoc] at hQ
      cases hd : isD c with
      | true =>
        rw [hd] at hc
        rw [if_pos hd] at hQ
        refine W.loop ?_
        unfold b275_0
        repeat' first | (rw [hg]) | (apply WO.ssb (r := t); exact rfl; exact rfl; omega; (rw [show (((t ++ [c]).length : Int) - 1).toNat = t.length by omega]; simp)) | apply W.seq | apply SQn | apply W.region | apply WO.nil | apply W.block | apply W.skip | apply BQn | (apply W.condT; exact rfl) | (apply W.condF; exact rfl) | (apply WO.gtr; exact rfl; exact rfl; all_goals first | (intro _; exfalso; omega) | intro _) | (apply WO.sub; exact rfl; exact rfl; omega) | (apply WO.ct; exact rfl; exact rfl; first | exact hc) | (apply WO.idx; exact rfl; exact rfl; omega) | (apply WO.pl; exact rfl; exact rfl) | (apply WO.pp; exact rfl; exact rfl)
        refine LQn ?_
        exact ih t _ _ rfl (by omega) (by omega) hQ
      | false =>
        rw [hd] at hc
        rw [if_neg (by rw [hd]; simp)] at hQ
        refine W.loop ?_
        unfold b275_0
        repeat' first | (rw [hg]) | apply W.seq | apply SQn | apply W.region | apply WO.nil | apply W.block | apply W.exit | apply W.skip | apply SQe | (apply BQo; exact rfl) | apply LQe | (apply W.condT; exact rfl) | (apply WO.gtr; exact rfl; exact rfl; all_goals first | (intro _; exfalso; omega) | intro _) | (apply WO.sub; exact rfl; exact rfl; omega) | (apply WO.ct; exact rfl; exact rfl; first | exact hc) | (apply WO.idx; exact rfl; exact rfl; omega) | (apply WO.pl; exact rfl; exact rfl)
        exact hQ _
theorem r275 (C : CT211 M) {H : Heap} {b : Nat} (hb : H.at b = some (.cells dset 314)) (s : Str) (hl : s.length < 1000000) : CT M (fnV 275) [.str s, .ptr b 0] H ⟨.str (trimR s), H, []⟩ := by
  refine CT.run (C.n275 _ _) (run_same (by rw [C.ft]; exact ft275) (by simp) ?_)
  simp only [List.nil_append, List.append_nil]
  unfold b275
  simp only [List.map_cons, List.map_nil, List.getElem?_cons_zero, List.getElem?_cons_succ, List.getElem?_nil, Option.getD_some, Option.getD_none]
  repeat' first | apply W.seq | apply SQn | apply W.region | apply WO.nil | apply W.block | (apply WO.pp; exact rfl; exact rfl)
  refine loop275 C hb s.length s _ _ rfl rfl hl fun lo => ?_
  repeat' first | apply W.seq | apply SQn | apply W.region | apply WO.nil | apply W.ret | apply BQe | (apply WO.pl; exact rfl; exact rfl) | (apply WO.pp; exact rfl; exact rfl)
  exact ⟨.inr rfl, rfl, rfl, rfl, _, rfl, rfl⟩
theorem loop274 (C : CT211 M) {H : Heap} {b : Nat} (hb : H.at b = some (.cells dset 314)) {Q : Ex → StW → Prop} : ∀ (s : Str) (lo : List (Nat × AV)) (wr : List Nat) (_ : wr = []), s.length < 1000000 →
    (∀ lo, Q (.exit 0) ⟨⟨[.str (trimL s), .ptr b 0, .str []], lo, H, []⟩, []⟩) → W M (.loop b274_0) ⟨⟨[.str s, .ptr b 0, .str []], lo, H, []⟩, wr⟩ Q
  | [], lo, wr, hw, hn, hQ => by
    subst hw
    have h0 : ([] : Str).length = 0 := rfl
    refine W.loop ?_
    unfold b274_0
    repeat' first | apply W.seq | apply SQn | apply W.region | apply WO.nil | apply W.exit | apply SQe | apply LQe | (apply W.condF; exact rfl) | (apply WO.gtr; exact rfl; exact rfl; all_goals first | (intro _; exfalso; omega) | intro _) | (apply WO.pl; exact rfl; exact rfl)
    exact hQ _
  | c :: s, lo, wr, hw, hn, hQ => by
    subst hw
    have hl : (c :: s).length = s.length + 1 := rfl
    have hc := r320 C c hb
    have e : trimL (c :: s) = if isD c then trimL s else c :: s := List.dropWhile_cons ..
    rw [e] at hQ
    cases hd : isD c with
    | true =>
      rw [hd] at hc
      rw [if_pos hd] at hQ
      refine W.loop ?_
      unfold b274_0
      repeat' first | (apply WO.sse (r := s); exact rfl; exact rfl; omega; exact rfl) | apply W.seq | apply SQn | apply W.region | apply WO.nil | apply W.block | apply W.skip | apply BQn | (apply W.condT; exact rfl) | (apply W.condF; exact rfl) | (apply WO.gtr; exact rfl; exact rfl; all_goals first | (intro _; exfalso; omega) | intro _) | (apply WO.ct; exact rfl; exact rfl; first | exact hc) | (apply WO.idx; exact rfl; exact rfl; omega) | (apply WO.pl; exact rfl; exact rfl) | (apply WO.pp; exact rfl; exact rfl)
      refine LQn ?_
      exact loop274 C hb s _ _ rfl (by omega) hQ
    | false =>
      rw [hd] at hc
      rw [if_neg (by rw [hd]; simp)] at hQ
      refine W.loop ?_
      unfold b274_0
      repeat' first | apply W.seq | apply SQn | apply W.region | apply WO.nil | apply W.block | apply W.exit | apply W.skip | apply SQe | (apply BQo; exact rfl) | apply LQe | (apply W.condT; exact rfl) | (apply WO.gtr; exact rfl; exact rfl; all_goals first | (intro _; exfalso; omega) | intro _) | (apply WO.ct; exact rfl; exact rfl; first | exact hc) | (apply WO.idx; exact rfl; exact rfl; omega) | (apply WO.pl; exact rfl; exact rfl)
      exact hQ _
theorem r274 (C : CT211 M) {H : Heap} {b : Nat} (hb : H.at b = some (.cells dset 314)) (s : Str) (hl : s.length < 1000000) : CT M (fnV 274) [.str s, .ptr b 0] H ⟨.str (trimL s), H, []⟩ := by
  refine CT.run (C.n274 _ _) (run_same (by rw [C.ft]; exact ft274) (by simp) ?_)
  simp only [List.nil_append, List.append_nil]
  unfold b274
  simp only [List.map_cons, List.map_nil, List.getElem?_cons_zero, List.getElem?_cons_succ, List.getElem?_nil, Option.getD_some, Option.getD_none]
  repeat' first | apply W.seq | apply SQn | apply W.region | apply WO.nil | apply W.block | (apply WO.pp; exact rfl; exact rfl)
  refine loop274 C hb s _ _ rfl hl fun lo => ?_
  repeat' first | apply W.seq | apply SQn | apply W.region | apply WO.nil | apply W.ret | apply BQe | (apply WO.pl; exact rfl; exact rfl) | (apply WO.pp; exact rfl; exact rfl)
  exact ⟨.inr rfl, rfl, rfl, rfl, _, rfl, rfl⟩
theorem dropWhile_len {p : UInt8 → Bool} : ∀ s : Str, (s.dropWhile p).length ≤ s.length
  | [] => Nat.le_refl _
  | c :: s => by
    rw [List.dropWhile_cons]
    have := dropWhile_len (p := p) s
    split
    · rw [List.length_cons]; omega
    · exact Nat.le_refl _
theorem trimR_len (s : Str) : (trimR s).length ≤ s.length := by
  unfold trimR
  have := dropWhile_len (p := isD) s.reverse
  simpa using this
theorem dset_len : dset.length = 256 := by simp [dset]
theorem dset_one : dset.all oneA = true := by
  simp only [dset, List.all_map, List.all_eq_true]
  intro x _
  rfl
theorem overwrite_all {a b : List AV} (h : a.length = b.length) : overwrite a 0 b = b := by
  unfold overwrite
  rw [List.take_zero, List.nil_append, List.drop_of_length_le (by omega), List.append_nil]
theorem no256_len : no256.length = 256 := by kernel_rfl
theorem dset_over : overwrite no256 0 dset = dset := overwrite_all (by rw [dset_len, no256_len])
theorem w211 (C : CT211 M) (s : Str) (hl : s.length < 1000000) : Run M 211 [.str s, .str digits10] [] ⟨.str (trimL (trimR s)), [], []⟩ := by
  have hD : digits10.length = 10 := rfl
  have hT := trimR_len s
  have c273 := C.c273 []
  have hb : Heap.at [some (.cells dset 314)] 0 = some (.cells dset 314) := rfl
  have q1 := r275 C hb s hl
  have q2 := r274 C hb (trimR s) (by omega)
  refine run_of_W (by rw [C.ft]; exact ft211) (by simp) ?_
  unfold b211
  simp only [List.map_cons, List.map_nil, List.getElem?_cons_zero, List.getElem?_cons_succ, List.getElem?_nil, Option.getD_some, Option.getD_none]
  by_cases h0 : s = []
  · subst h0
    repeat' first | (apply WO.seql; exact rfl; exact rfl; intro _; rotate_left; (intro h; exact absurd rfl h)) | apply W.seq | apply SQn | apply W.region | apply WO.nil | apply W.ret | apply SQr | (apply W.condT; exact rfl) | (apply WO.sF; exact rfl) | (apply WO.pkT; exact rfl; exact rfl) | (apply WO.pl; exact rfl; exact rfl) | (apply WO.pp; exact rfl; exact rfl)
    exact ⟨.inr rfl, rfl, _, rfl, rfl, rfl⟩
  · repeat' first | (apply WO.seql; exact rfl; exact rfl; (intro h; first | exact absurd h h0 | exact absurd h (by decide)); intro _) | apply W.seq | apply SQn | apply W.region | apply WO.nil | apply W.ret | apply W.skip | apply SQr | (apply W.condT; exact rfl) | (apply W.condF; exact rfl) | (apply WO.gF; exact rfl) | (apply WO.sT; exact rfl) | (apply WO.eql; exact rfl; exact rfl; all_goals first | (intro _; exfalso; omega) | intro _) | (apply WO.pkF; exact rfl; exact rfl) | (apply WO.cll; exact rfl; exact rfl; first | exact c273) | (apply WO.stj (c' := dset); exact rfl; exact rfl; exact rfl; exact ⟨dset_len, Nat.le_of_eq ((Nat.zero_add _).trans no256_len.symm), dset_one⟩; exact dset_over) | (apply WO.ct; exact rfl; exact rfl; first | exact q1 | exact q2) | (apply WO.hpv; exact rfl; exact rfl; exact rfl) | (apply WO.pl; exact rfl; exact rfl) | (apply WO.pp; exact rfl; exact rfl)
    exact ⟨.inr rfl, rfl, _, rfl, rfl, rfl⟩
end Go.Ab.Ch5


/-
  Own work: the code of what packs and unpacks images.
-/
namespace Go.Ab.Ch5
set_option maxRecDepth 1000000
/-- stadion/stadionlaw05.FinishTexts -/
def b3 : ICode :=
 .seq (.region [⟨(.p 2), .box 24 2 (.p 0), none⟩,
    ⟨(.p 3), .mv (.c (.bool false)), none⟩])
  (.seq (.region [⟨(.l 16), .load 2 true (.p 2), none⟩,
     ⟨(.p 4), .alloc 25 [.int .i64 (0), .nilsl], none⟩,
     ⟨.no, .store 2 (.p 4) (.l 16), none⟩])
   (.seq (.seq (.region [⟨(.l 17), .call (.c (.fn (.func 15) [] [])) [], none⟩,
       ⟨(.l 18), .un .not (.l 17), none⟩,
       ⟨(.l 19), .mv (.l 18), none⟩,
       ⟨(.l 20), .load 2 true (.p 4), some ((.l 19), false)⟩,
       ⟨(.l 21), .call (.c (.fn (.func 16) [] [])) [(.l 20)], some ((.l 19), false)⟩,
       ⟨(.l 22), .un .not (.l 21), some ((.l 19), false)⟩,
       ⟨(.l 23), .pick (.l 19) (.c (.bool true)) (.l 22), none⟩,
       ⟨(.l 24), .mv (.l 23), none⟩,
       ⟨(.l 25), .mv (.p 1), some ((.l 24), false)⟩,
       ⟨(.l 26), .len .str (.l 25), some ((.l 24), false)⟩,
       ⟨(.l 27), .bin .gtr (.l 26) (.c (.int .i64 (4200))), some ((.l 24), false)⟩,
       ⟨(.l 28), .pick (.l 24) (.c (.bool true)) (.l 27), none⟩])
     (.cond (.l 28)
      (.seq (.region [⟨(.l 29), .call (.c (.fn (.func 15) [] [])) [], none⟩,
         ⟨(.p 3), .mv (.l 29), none⟩])
       (.ret))
      (.skip)))
    (.seq (.region [⟨(.l 31), .load 2 true (.p 2), none⟩,
       ⟨(.l 32), .call (.c (.fn (.func 17) [] [])) [(.l 31)], none⟩,
       ⟨(.l 30), .mv (.l 32), none⟩,
       ⟨(.l 33), .extract 0 (.l 30), none⟩,
       ⟨(.l 34), .extract 1 (.l 30), none⟩,
       ⟨(.p 5), .mv (.l 33), none⟩,
       ⟨(.p 6), .mv (.l 34), none⟩])
     (.seq (.region [⟨(.l 35), .load 2 true (.p 4), none⟩,
        ⟨(.l 36), .call (.c (.fn (.func 18) [] [])) [(.l 35)], none⟩,
        ⟨(.p 7), .mv (.l 36), none⟩])
      (.seq (.region [⟨(.p 8), .mv (.c (.str [])), none⟩])
       (.seq (.seq (.region [⟨(.l 37), .mv (.p 7), none⟩,
           ⟨(.l 38), .bin .eql (.l 37) (.c (.int .i64 (0))), none⟩])
         (.cond (.l 38)
          (.seq (.region [⟨(.l 39), .load 2 true (.p 4), none⟩,
             ⟨(.l 40), .call (.c (.fn (.func 19) [] [])) [(.l 39)], none⟩,
             ⟨(.p 8), .mv (.l 40), none⟩])
           (.region [⟨(.l 41), .mv (.p 8), none⟩,
             ⟨(.l 42), .len .str (.l 41), none⟩,
             ⟨(.l 43), .bin .gtr (.l 42) (.c (.int .i64 (4096))), none⟩,
             ⟨(.l 44), .call (.c (.fn (.func 20) [] [])) [(.l 43), (.c (.int .i64 (26)))], none⟩,
             ⟨(.p 7), .mv (.l 44), none⟩]))
          (.skip)))
        (.seq (.seq (.region [⟨(.l 45), .mv (.p 7), none⟩,
            ⟨(.l 46), .bin .neq (.l 45) (.c (.int .i64 (0))), none⟩,
            ⟨(.l 47), .mv (.l 46), none⟩,
            ⟨(.l 48), .mv (.p 5), some ((.l 47), true)⟩,
            ⟨(.l 49), .bin .neq (.l 48) (.c (.str [])), some ((.l 47), true)⟩,
            ⟨(.l 50), .mv (.l 49), some ((.l 47), true)⟩,
            ⟨(.l 51), .mv (.p 6), some ((.l 50), false)⟩,
            ⟨(.l 52), .mv (.p 7), some ((.l 50), false)⟩,
            ⟨(.l 53), .bin .neq (.l 51) (.l 52), some ((.l 50), false)⟩,
            ⟨(.l 54), .pick (.l 50) (.c (.bool true)) (.l 53), some ((.l 47), true)⟩,
            ⟨(.l 55), .pick (.l 47) (.l 54) (.c (.bool false)), none⟩,
            ⟨(.l 56), .mv (.l 55), none⟩,
            ⟨(.l 57), .mv (.p 7), some ((.l 56), false)⟩,
            ⟨(.l 58), .bin .eql (.l 57) (.c (.int .i64 (0))), some ((.l 56), false)⟩,
            ⟨(.l 59), .mv (.l 58), some ((.l 56), false)⟩,
            ⟨(.l 60), .mv (.p 5), some ((.l 59), true)⟩,
            ⟨(.l 61), .mv (.p 8), some ((.l 59), true)⟩,
            ⟨(.l 62), .bin .neq (.l 60) (.l 61), some ((.l 59), true)⟩,
            ⟨(.l 63), .mv (.l 62), some ((.l 59), true)⟩,
            ⟨(.l 64), .mv (.p 6), some ((.l 63), false)⟩,
            ⟨(.l 65), .bin .neq (.l 64) (.c (.int .i64 (0))), some ((.l 63), false)⟩,
            ⟨(.l 66), .pick (.l 63) (.c (.bool true)) (.l 65), some ((.l 59), true)⟩,
            ⟨(.l 67), .pick (.l 59) (.l 66) (.c (.bool false)), some ((.l 56), false)⟩,
            ⟨(.l 68), .pick (.l 56) (.c (.bool true)) (.l 67), none⟩])
          (.cond (.l 68)
           (.seq (.region [⟨(.p 3), .mv (.c (.bool false)), none⟩])
            (.ret))
           (.skip)))
         (.seq (.region [⟨(.l 70), .mv (.p 1), none⟩,
            ⟨(.l 71), .call (.c (.fn (.func 21) [] [])) [(.l 70)], none⟩,
            ⟨(.l 69), .mv (.l 71), none⟩,
            ⟨(.l 72), .extract 0 (.l 69), none⟩,
            ⟨(.l 73), .extract 1 (.l 69), none⟩,
            ⟨(.l 74), .extract 2 (.l 69), none⟩,
            ⟨(.p 9), .alloc 24 [.int .i64 (0), .nilsl], none⟩,
            ⟨.no, .store 2 (.p 9) (.l 72), none⟩,
            ⟨(.p 10), .mv (.l 73), none⟩,
            ⟨(.p 11), .mv (.l 74), none⟩])
          (.seq (.region [⟨(.l 76), .mv (.p 1), none⟩,
             ⟨(.l 77), .call (.c (.fn (.func 22) [] [])) [(.l 76)], none⟩,
             ⟨(.l 75), .mv (.l 77), none⟩,
             ⟨(.l 78), .extract 0 (.l 75), none⟩,
             ⟨(.l 79), .extract 1 (.l 75), none⟩,
             ⟨(.l 80), .extract 2 (.l 75), none⟩,
             ⟨(.p 12), .alloc 25 [.int .i64 (0), .nilsl], none⟩,
             ⟨.no, .store 2 (.p 12) (.l 78), none⟩,
             ⟨(.p 13), .mv (.l 79), none⟩,
             ⟨(.p 14), .mv (.l 80), none⟩])
           (.seq (.region [⟨(.l 81), .mv (.p 10), none⟩,
              ⟨(.l 82), .mv (.p 13), none⟩,
              ⟨(.l 83), .bin .eql (.l 81) (.l 82), none⟩,
              ⟨(.l 84), .mv (.l 83), none⟩,
              ⟨(.l 85), .load 2 true (.p 9), some ((.l 84), true)⟩,
              ⟨(.l 86), .mv (.p 11), some ((.l 84), true)⟩,
              ⟨(.l 87), .mv (.p 14), some ((.l 84), true)⟩,
              ⟨(.l 88), .load 2 true (.p 12), some ((.l 84), true)⟩,
              ⟨(.l 89), .call (.c (.fn (.func 23) [] [])) [(.l 85), (.l 86), (.l 87), (.l 88)], some ((.l 84), true)⟩,
              ⟨(.l 90), .pick (.l 84) (.l 89) (.c (.bool false)), none⟩,
              ⟨(.p 3), .mv (.l 90), none⟩])
            (.ret)))))))))))
theorem ft3 : FT 3 = some ⟨91, [0, 1, 2, 4, 5, 6, 7, 8, 9, 10, 11, 12, 13, 14, 15], [.var (.p 3)], b3⟩ := by kernel_rfl

def b14_0 : ICode :=
 .seq (.region [⟨(.l 145), .bin .lss (.p 25) (.p 24), none⟩])
  (.seq (.cond (.l 145)
    (.skip)
    (.exit 0))
   (.seq (.block 1
     (.seq (.region [⟨(.l 146), .mv (.p 25), none⟩,
        ⟨(.p 21), .mv (.l 146), none⟩])
      (.region [⟨(.l 147), .mv (.p 20), none⟩,
        ⟨(.l 148), .bin .add (.l 147) (.c (.str [49, 32])), none⟩,
        ⟨(.l 149), .faddr 1 (.p 2), none⟩,
        ⟨(.l 150), .load 1 false (.l 149), none⟩,
        ⟨(.l 151), .mv (.p 21), none⟩,
        ⟨(.l 152), .iaddr none 1 (.l 150) (.l 151), none⟩,
        ⟨(.l 153), .load 1 false (.l 152), none⟩,
        ⟨(.l 154), .bin .add (.l 148) (.l 153), none⟩,
        ⟨(.l 155), .bin .add (.l 154) (.c (.str [10])), none⟩,
        ⟨(.p 20), .mv (.l 155), none⟩])))
    (.region [⟨(.l 156), .bin .add (.p 25) (.c (.int .i64 (1))), none⟩,
      ⟨(.p 25), .mv (.l 156), none⟩])))
/-- stadion/stadionlaw05.FinishPacks -/
def b14 : ICode :=
 .seq (.region [⟨(.p 2), .box 24 2 (.p 0), none⟩,
    ⟨(.p 3), .mv (.c (.bool false)), none⟩])
  (.seq (.region [⟨(.l 26), .load 2 true (.p 2), none⟩,
     ⟨(.p 4), .alloc 25 [.int .i64 (0), .nilsl], none⟩,
     ⟨.no, .store 2 (.p 4) (.l 26), none⟩])
   (.seq (.seq (.region [⟨(.l 27), .call (.c (.fn (.func 15) [] [])) [], none⟩,
       ⟨(.l 28), .un .not (.l 27), none⟩,
       ⟨(.l 29), .mv (.l 28), none⟩,
       ⟨(.l 30), .load 2 true (.p 4), some ((.l 29), false)⟩,
       ⟨(.l 31), .call (.c (.fn (.func 16) [] [])) [(.l 30)], some ((.l 29), false)⟩,
       ⟨(.l 32), .un .not (.l 31), some ((.l 29), false)⟩,
       ⟨(.l 33), .pick (.l 29) (.c (.bool true)) (.l 32), none⟩,
       ⟨(.l 34), .mv (.l 33), none⟩,
       ⟨(.l 35), .faddr 1 (.p 2), some ((.l 34), false)⟩,
       ⟨(.l 36), .load 1 false (.l 35), some ((.l 34), false)⟩,
       ⟨(.l 37), .len .sl (.l 36), some ((.l 34), false)⟩,
       ⟨(.l 38), .bin .gtr (.l 37) (.c (.int .i64 (40))), some ((.l 34), false)⟩,
       ⟨(.l 39), .pick (.l 34) (.c (.bool true)) (.l 38), none⟩,
       ⟨(.l 40), .mv (.l 39), none⟩,
       ⟨(.l 41), .load 2 true (.p 4), some ((.l 40), false)⟩,
       ⟨(.l 42), .call (.c (.fn (.func 18) [] [])) [(.l 41)], some ((.l 40), false)⟩,
       ⟨(.l 43), .bin .neq (.l 42) (.c (.int .i64 (0))), some ((.l 40), false)⟩,
       ⟨(.l 44), .pick (.l 40) (.c (.bool true)) (.l 43), none⟩])
     (.cond (.l 44)
      (.seq (.region [⟨(.l 45), .call (.c (.fn (.func 15) [] [])) [], none⟩,
         ⟨(.p 3), .mv (.l 45), none⟩])
       (.ret))
      (.skip)))
    (.seq (.region [⟨(.l 47), .load 2 true (.p 2), none⟩,
       ⟨(.l 48), .call (.c (.fn (.func 17) [] [])) [(.l 47)], none⟩,
       ⟨(.l 46), .mv (.l 48), none⟩,
       ⟨(.l 49), .extract 0 (.l 46), none⟩,
       ⟨(.l 50), .extract 1 (.l 46), none⟩,
       ⟨(.p 5), .mv (.l 49), none⟩,
       ⟨(.p 6), .mv (.l 50), none⟩])
     (.seq (.seq (.region [⟨(.l 51), .mv (.p 6), none⟩,
         ⟨(.l 52), .bin .neq (.l 51) (.c (.int .i64 (0))), none⟩])
       (.cond (.l 52)
        (.seq (.region [⟨(.l 53), .mv (.p 6), none⟩,
           ⟨(.l 54), .bin .eql (.l 53) (.c (.int .i64 (26))), none⟩,
           ⟨(.l 55), .mv (.l 54), none⟩,
           ⟨(.l 56), .faddr 1 (.p 2), some ((.l 55), true)⟩,
           ⟨(.l 57), .load 1 false (.l 56), some ((.l 55), true)⟩,
           ⟨(.l 58), .len .sl (.l 57), some ((.l 55), true)⟩,
           ⟨(.l 59), .faddr 0 (.p 2), some ((.l 55), true)⟩,
           ⟨(.l 60), .load 1 false (.l 59), some ((.l 55), true)⟩,
           ⟨(.l 61), .bin .add (.l 60) (.c (.int .i64 (4))), some ((.l 55), true)⟩,
           ⟨(.l 62), .bin .mul (.l 58) (.l 61), some ((.l 55), true)⟩,
           ⟨(.l 63), .bin .gtr (.l 62) (.c (.int .i64 (4096))), some ((.l 55), true)⟩,
           ⟨(.l 64), .pick (.l 55) (.l 63) (.c (.bool false)), none⟩,
           ⟨(.p 3), .mv (.l 64), none⟩])
         (.ret))
        (.skip)))
      (.seq (.region [⟨(.l 66), .mv (.p 5), none⟩,
         ⟨(.l 67), .call (.c (.fn (.func 21) [] [])) [(.l 66)], none⟩,
         ⟨(.l 65), .mv (.l 67), none⟩,
         ⟨(.l 68), .extract 0 (.l 65), none⟩,
         ⟨(.l 69), .extract 1 (.l 65), none⟩,
         ⟨(.l 70), .extract 2 (.l 65), none⟩,
         ⟨(.p 7), .alloc 24 [.int .i64 (0), .nilsl], none⟩,
         ⟨.no, .store 2 (.p 7) (.l 68), none⟩,
         ⟨(.p 8), .mv (.l 69), none⟩,
         ⟨(.p 9), .mv (.l 70), none⟩])
       (.seq (.region [⟨(.l 72), .load 2 true (.p 2), none⟩,
          ⟨(.l 73), .call (.c (.fn (.func 71) [] [])) [(.l 72)], none⟩,
          ⟨(.l 71), .mv (.l 73), none⟩,
          ⟨(.l 74), .extract 0 (.l 71), none⟩,
          ⟨(.l 75), .extract 1 (.l 71), none⟩,
          ⟨(.p 10), .alloc 24 [.int .i64 (0), .nilsl], none⟩,
          ⟨.no, .store 2 (.p 10) (.l 74), none⟩,
          ⟨(.p 11), .mv (.l 75), none⟩])
        (.seq (.region [⟨(.l 77), .load 2 true (.p 10), none⟩,
           ⟨(.l 78), .call (.c (.fn (.func 71) [] [])) [(.l 77)], none⟩,
           ⟨(.l 76), .mv (.l 78), none⟩,
           ⟨(.l 79), .extract 0 (.l 76), none⟩,
           ⟨(.l 80), .extract 1 (.l 76), none⟩,
           ⟨(.p 12), .alloc 24 [.int .i64 (0), .nilsl], none⟩,
           ⟨.no, .store 2 (.p 12) (.l 79), none⟩,
           ⟨(.p 13), .mv (.l 80), none⟩])
         (.seq (.region [⟨(.l 82), .load 2 true (.p 2), none⟩,
            ⟨(.l 83), .call (.c (.fn (.func 66) [] [])) [(.l 82), (.c (.int .i64 (1)))], none⟩,
            ⟨(.l 81), .mv (.l 83), none⟩,
            ⟨(.l 84), .extract 0 (.l 81), none⟩,
            ⟨(.l 85), .extract 1 (.l 81), none⟩,
            ⟨(.p 14), .alloc 24 [.int .i64 (0), .nilsl], none⟩,
            ⟨.no, .store 2 (.p 14) (.l 84), none⟩,
            ⟨(.p 15), .mv (.l 85), none⟩])
          (.seq (.region [⟨(.l 87), .load 2 true (.p 2), none⟩,
             ⟨(.l 88), .mv (.p 1), none⟩,
             ⟨(.l 89), .convInt .i64 (.l 88), none⟩,
             ⟨(.l 90), .bin .rem (.l 89) (.c (.int .i64 (9))), none⟩,
             ⟨(.l 91), .bin .add (.c (.int .i64 (1))) (.l 90), none⟩,
             ⟨(.l 92), .call (.c (.fn (.func 66) [] [])) [(.l 87), (.l 91)], none⟩,
             ⟨(.l 86), .mv (.l 92), none⟩,
             ⟨(.l 93), .extract 0 (.l 86), none⟩,
             ⟨(.l 94), .extract 1 (.l 86), none⟩,
             ⟨(.p 16), .alloc 24 [.int .i64 (0), .nilsl], none⟩,
             ⟨.no, .store 2 (.p 16) (.l 93), none⟩,
             ⟨(.p 17), .mv (.l 94), none⟩])
           (.seq (.region [⟨(.l 96), .load 2 true (.p 16), none⟩,
              ⟨(.l 97), .call (.c (.fn (.func 17) [] [])) [(.l 96)], none⟩,
              ⟨(.l 95), .mv (.l 97), none⟩,
              ⟨(.l 98), .extract 0 (.l 95), none⟩,
              ⟨(.l 99), .extract 1 (.l 95), none⟩,
              ⟨(.p 18), .mv (.l 98), none⟩,
              ⟨(.p 19), .mv (.l 99), none⟩])
            (.seq (.seq (.region [⟨(.l 100), .mv (.p 9), none⟩,
                ⟨(.l 101), .mv (.p 11), none⟩,
                ⟨(.l 102), .bin .add (.l 100) (.l 101), none⟩,
                ⟨(.l 103), .mv (.p 13), none⟩,
                ⟨(.l 104), .bin .add (.l 102) (.l 103), none⟩,
                ⟨(.l 105), .mv (.p 15), none⟩,
                ⟨(.l 106), .bin .add (.l 104) (.l 105), none⟩,
                ⟨(.l 107), .mv (.p 17), none⟩,
                ⟨(.l 108), .bin .add (.l 106) (.l 107), none⟩,
                ⟨(.l 109), .mv (.p 19), none⟩,
                ⟨(.l 110), .bin .add (.l 108) (.l 109), none⟩,
                ⟨(.l 111), .bin .neq (.l 110) (.c (.int .i64 (0))), none⟩,
                ⟨(.l 112), .mv (.l 111), none⟩,
                ⟨(.l 113), .mv (.p 8), some ((.l 112), false)⟩,
                ⟨(.l 114), .bin .neq (.l 113) (.c (.int .i64 (0))), some ((.l 112), false)⟩,
                ⟨(.l 115), .pick (.l 112) (.c (.bool true)) (.l 114), none⟩,
                ⟨(.l 116), .mv (.l 115), none⟩,
                ⟨(.l 117), .load 2 true (.p 7), some ((.l 116), false)⟩,
                ⟨(.l 118), .load 2 true (.p 4), some ((.l 116), false)⟩,
                ⟨(.l 119), .call (.c (.fn (.func 76) [] [])) [(.l 117), (.l 118)], some ((.l 116), false)⟩,
                ⟨(.l 120), .un .not (.l 119), some ((.l 116), false)⟩,
                ⟨(.l 121), .pick (.l 116) (.c (.bool true)) (.l 120), none⟩,
                ⟨(.l 122), .mv (.l 121), none⟩,
                ⟨(.l 123), .load 2 true (.p 12), some ((.l 122), false)⟩,
                ⟨(.l 124), .load 2 true (.p 4), some ((.l 122), false)⟩,
                ⟨(.l 125), .call (.c (.fn (.func 76) [] [])) [(.l 123), (.l 124)], some ((.l 122), false)⟩,
                ⟨(.l 126), .un .not (.l 125), some ((.l 122), false)⟩,
                ⟨(.l 127), .pick (.l 122) (.c (.bool true)) (.l 126), none⟩,
                ⟨(.l 128), .mv (.l 127), none⟩,
                ⟨(.l 129), .load 2 true (.p 14), some ((.l 128), false)⟩,
                ⟨(.l 130), .load 2 true (.p 4), some ((.l 128), false)⟩,
                ⟨(.l 131), .call (.c (.fn (.func 76) [] [])) [(.l 129), (.l 130)], some ((.l 128), false)⟩,
                ⟨(.l 132), .un .not (.l 131), some ((.l 128), false)⟩,
                ⟨(.l 133), .pick (.l 128) (.c (.bool true)) (.l 132), none⟩,
                ⟨(.l 134), .mv (.l 133), none⟩,
                ⟨(.l 135), .mv (.p 5), some ((.l 134), false)⟩,
                ⟨(.l 136), .call (.c (.fn (.func 77) [] [])) [(.l 135)], some ((.l 134), false)⟩,
                ⟨(.l 137), .mv (.p 18), some ((.l 134), false)⟩,
                ⟨(.l 138), .call (.c (.fn (.func 77) [] [])) [(.l 137)], some ((.l 134), false)⟩,
                ⟨(.l 139), .bin .neq (.l 136) (.l 138), some ((.l 134), false)⟩,
                ⟨(.l 140), .pick (.l 134) (.c (.bool true)) (.l 139), none⟩])
              (.cond (.l 140)
               (.seq (.region [⟨(.p 3), .mv (.c (.bool false)), none⟩])
                (.ret))
               (.skip)))
             (.seq (.region [⟨(.p 20), .mv (.c (.str [])), none⟩])
              (.seq (.seq (.region [⟨(.l 141), .faddr 1 (.p 2), none⟩,
                  ⟨(.l 142), .load 1 false (.l 141), none⟩,
                  ⟨(.p 24), .len .sl (.l 142), none⟩,
                  ⟨(.p 25), .mv (.c (.int .i64 (0))), none⟩])
                (.block 0
                 (.loop b14_0)))
               (.seq (.seq (.region [⟨(.l 157), .mv (.p 20), none⟩,
                   ⟨(.l 158), .len .str (.l 157), none⟩,
                   ⟨(.l 159), .bin .gtr (.l 158) (.c (.int .i64 (4096))), none⟩])
                 (.cond (.l 159)
                  (.seq (.region [⟨(.p 3), .mv (.c (.bool true)), none⟩])
                   (.ret))
                  (.skip)))
                (.seq (.region [⟨(.l 161), .mv (.p 20), none⟩,
                   ⟨(.l 162), .call (.c (.fn (.func 21) [] [])) [(.l 161)], none⟩,
                   ⟨(.l 160), .mv (.l 162), none⟩,
                   ⟨(.l 163), .extract 0 (.l 160), none⟩,
                   ⟨(.l 164), .extract 1 (.l 160), none⟩,
                   ⟨(.l 165), .extract 2 (.l 160), none⟩,
                   ⟨(.p 22), .alloc 24 [.int .i64 (0), .nilsl], none⟩,
                   ⟨.no, .store 2 (.p 22) (.l 163), none⟩,
                   ⟨(.l 24), .mv (.l 164), none⟩,
                   ⟨(.p 23), .mv (.l 165), none⟩])
                 (.seq (.region [⟨(.l 166), .mv (.p 23), none⟩,
                    ⟨(.l 167), .bin .eql (.l 166) (.c (.int .i64 (0))), none⟩,
                    ⟨(.l 168), .mv (.l 167), none⟩,
                    ⟨(.l 169), .load 2 true (.p 22), some ((.l 168), true)⟩,
                    ⟨(.l 170), .load 2 true (.p 4), some ((.l 168), true)⟩,
                    ⟨(.l 171), .call (.c (.fn (.func 76) [] [])) [(.l 169), (.l 170)], some ((.l 168), true)⟩,
                    ⟨(.l 172), .pick (.l 168) (.l 171) (.c (.bool false)), none⟩,
                    ⟨(.l 173), .mv (.l 172), none⟩,
                    ⟨(.l 174), .mv (.p 5), some ((.l 173), true)⟩,
                    ⟨(.l 175), .len .str (.l 174), some ((.l 173), true)⟩,
                    ⟨(.l 176), .mv (.p 20), some ((.l 173), true)⟩,
                    ⟨(.l 177), .len .str (.l 176), some ((.l 173), true)⟩,
                    ⟨(.l 178), .bin .leq (.l 175) (.l 177), some ((.l 173), true)⟩,
                    ⟨(.l 179), .pick (.l 173) (.l 178) (.c (.bool false)), none⟩,
                    ⟨(.p 3), .mv (.l 179), none⟩])
                  (.ret)))))))))))))))))
theorem ft14 : FT 14 = some ⟨180, [0, 1, 2, 4, 5, 6, 7, 8, 9, 10, 11, 12, 13, 14, 15, 16, 17, 18, 19, 20, 21, 22, 23, 25, 143, 144], [.var (.p 3)], b14⟩ := by kernel_rfl

def b77_0 : ICode :=
 .seq (.seq (.region [⟨(.l 5), .mv (.p 3), none⟩,
     ⟨(.l 6), .mv (.p 0), none⟩,
     ⟨(.l 7), .len .str (.l 6), none⟩,
     ⟨(.l 8), .bin .lss (.l 5) (.l 7), none⟩])
   (.cond (.l 8)
    (.skip)
    (.exit 0)))
  (.seq (.block 1
    (.seq (.region [⟨(.l 11), .mv (.p 0), none⟩,
       ⟨(.l 12), .mv (.p 3), none⟩,
       ⟨(.l 13), .index (.l 11) (.l 12), none⟩,
       ⟨(.l 14), .bin .eql (.l 13) (.c (.int .u8 (10))), none⟩])
     (.cond (.l 14)
      (.region [⟨(.l 15), .mv (.p 2), none⟩,
        ⟨(.l 16), .bin .add (.l 15) (.c (.int .i64 (1))), none⟩,
        ⟨(.p 2), .mv (.l 16), none⟩])
      (.skip))))
   (.region [⟨(.l 9), .mv (.p 3), none⟩,
     ⟨(.l 10), .bin .add (.l 9) (.c (.int .i64 (1))), none⟩,
     ⟨(.p 3), .mv (.l 10), none⟩]))
/-- stadion/stadionlaw05.lines -/
def b77 : ICode :=
 .seq (.region [⟨(.p 1), .mv (.c (.int .i64 (0))), none⟩])
  (.seq (.region [⟨(.p 2), .mv (.c (.int .i64 (0))), none⟩])
   (.seq (.seq (.region [⟨(.p 3), .mv (.c (.int .i64 (0))), none⟩])
     (.block 0
      (.loop b77_0)))
    (.seq (.region [⟨(.l 17), .mv (.p 2), none⟩,
       ⟨(.p 1), .mv (.l 17), none⟩])
     (.ret))))
theorem ft77 : FT 77 = some ⟨18, [0, 2, 3, 4], [.var (.p 1)], b77⟩ := by kernel_rfl

/-- stadion/finish.Pack -/
def b17 : ICode :=
 .seq (.region [⟨(.p 1), .box 24 2 (.p 0), none⟩,
    ⟨(.p 2), .mv (.c (.str [])), none⟩,
    ⟨(.p 3), .mv (.c (.int .i64 (0))), none⟩])
  (.seq (.seq (.region [⟨(.l 8), .load 2 true (.p 1), none⟩,
      ⟨(.l 9), .call (.c (.fn (.func 70) [] [])) [(.l 8)], none⟩,
      ⟨(.p 4), .mv (.l 9), none⟩])
    (.seq (.region [⟨(.l 10), .mv (.p 4), none⟩,
       ⟨(.l 11), .bin .neq (.l 10) (.c (.int .i64 (0))), none⟩])
     (.cond (.l 11)
      (.seq (.region [⟨(.l 12), .mv (.p 4), none⟩,
         ⟨(.p 2), .mv (.c (.str [])), none⟩,
         ⟨(.p 3), .mv (.l 12), none⟩])
       (.ret))
      (.skip))))
   (.seq (.region [⟨(.p 5), .alloc 146 [.nilp, .nilsl], none⟩])
    (.seq (.seq (.region [⟨(.l 13), .faddr 1 (.p 1), none⟩,
        ⟨(.l 14), .load 1 false (.l 13), none⟩,
        ⟨(.l 15), .call (.c (.fn (.func 82) [] [])) [(.l 14)], none⟩])
      (.block 0
       (.rangeFunc false (.l 15) [(.p 8), (.p 9)]
        (.seq (.region [⟨(.p 6), .mv (.p 8), none⟩])
         (.region [⟨(.p 7), .mv (.p 9), none⟩]))
        (.block 1
         (.region [⟨(.l 18), .mv (.p 6), none⟩,
           ⟨(.l 19), .call (.c (.fn (.func 84) [] [])) [(.l 18)], none⟩,
           ⟨(.l 20), .bin .add (.l 19) (.c (.str [32])), none⟩,
           ⟨(.l 21), .mv (.p 7), none⟩,
           ⟨(.l 22), .bin .add (.l 20) (.l 21), none⟩,
           ⟨(.l 23), .bin .add (.l 22) (.c (.str [10])), none⟩,
           ⟨(.l 24), .call (.c (.fn (.func 83) [] [])) [(.p 5), (.l 23)], none⟩])))))
     (.seq (.seq (.region [⟨(.l 25), .call (.c (.fn (.func 85) [] [])) [(.p 5)], none⟩,
         ⟨(.l 26), .bin .gtr (.l 25) (.c (.int .i64 (4096))), none⟩])
       (.cond (.l 26)
        (.seq (.region [⟨(.p 2), .mv (.c (.str [])), none⟩,
           ⟨(.p 3), .mv (.c (.int .i64 (26))), none⟩])
         (.ret))
        (.skip)))
      (.seq (.region [⟨(.l 27), .call (.c (.fn (.func 86) [] [])) [(.p 5)], none⟩,
         ⟨(.p 2), .mv (.l 27), none⟩,
         ⟨(.p 3), .mv (.c (.int .i64 (0))), none⟩])
       (.ret))))))
theorem ft17 : FT 17 = some ⟨28, [0, 1, 2, 3, 4, 5, 6, 7, 16, 17], [.var (.p 2), .var (.p 3)], b17⟩ := by kernel_rfl

def b19_0 : ICode :=
 .seq (.seq (.draw [(⟨(.l 12), .mv (.p 5), none⟩, []),
     (⟨(.l 13), .faddr 1 (.p 1), none⟩, [0]),
     (⟨(.l 14), .load 1 false (.l 13), none⟩, [0]),
     (⟨(.l 15), .len .sl (.l 14), none⟩, [0]),
     (⟨(.l 16), .bin .lss (.l 12) (.l 15), none⟩, []),
     (⟨(.l 17), .mv (.l 16), none⟩, []),
     (⟨(.l 18), .faddr 1 (.p 1), some ((.l 17), true)⟩, []),
     (⟨(.l 19), .load 1 false (.l 18), some ((.l 17), true)⟩, []),
     (⟨(.l 20), .mv (.p 5), some ((.l 17), true)⟩, [6, 7]),
     (⟨(.l 21), .iaddr none 1 (.l 19) (.l 20), some ((.l 17), true)⟩, []),
     (⟨(.l 22), .load 1 false (.l 21), some ((.l 17), true)⟩, []),
     (⟨(.l 23), .faddr 1 (.p 1), some ((.l 17), true)⟩, [6, 7, 8, 9, 10]),
     (⟨(.l 24), .load 1 false (.l 23), some ((.l 17), true)⟩, [6, 7, 8, 9, 10]),
     (⟨(.l 25), .mv (.p 4), some ((.l 17), true)⟩, [6, 7, 8, 9, 10, 11, 12]),
     (⟨(.l 26), .iaddr none 1 (.l 24) (.l 25), some ((.l 17), true)⟩, [6, 7, 8, 9, 10]),
     (⟨(.l 27), .load 1 false (.l 26), some ((.l 17), true)⟩, [6, 7, 8, 9, 10]),
     (⟨(.l 28), .bin .eql (.l 22) (.l 27), some ((.l 17), true)⟩, []),
     (⟨(.l 29), .pick (.l 17) (.l 28) (.c (.bool false)), none⟩, [])])
   (.cond (.l 29)
    (.skip)
    (.exit 2)))
  (.block 3
   (.region [⟨(.l 30), .mv (.p 5), none⟩,
     ⟨(.l 31), .bin .add (.l 30) (.c (.int .i64 (1))), none⟩,
     ⟨(.p 5), .mv (.l 31), none⟩]))
def b19_1 : ICode :=
 .seq (.seq (.region [⟨(.l 6), .mv (.p 4), none⟩,
     ⟨(.l 7), .faddr 1 (.p 1), none⟩,
     ⟨(.l 8), .load 1 false (.l 7), none⟩,
     ⟨(.l 9), .len .sl (.l 8), none⟩,
     ⟨(.l 10), .bin .lss (.l 6) (.l 9), none⟩])
   (.cond (.l 10)
    (.skip)
    (.exit 0)))
  (.block 1
   (.seq (.region [⟨(.l 11), .mv (.p 4), none⟩,
      ⟨(.p 5), .mv (.l 11), none⟩])
    (.seq (.block 2
      (.loop b19_0))
     (.seq (.draw [(⟨(.l 32), .mv (.p 3), none⟩, []),
        (⟨(.l 33), .mv (.p 5), none⟩, [0]),
        (⟨(.l 34), .mv (.p 4), none⟩, [0, 1]),
        (⟨(.l 35), .bin .sub (.l 33) (.l 34), none⟩, [0]),
        (⟨(.l 36), .call (.c (.fn (.func 89) [] [])) [(.l 35)], none⟩, [0]),
        (⟨(.l 37), .bin .add (.l 32) (.l 36), none⟩, []),
        (⟨(.l 38), .bin .add (.l 37) (.c (.str [32])), none⟩, []),
        (⟨(.l 39), .faddr 1 (.p 1), none⟩, [0, 1, 2, 3, 4, 5, 6]),
        (⟨(.l 40), .load 1 false (.l 39), none⟩, [0, 1, 2, 3, 4, 5, 6]),
        (⟨(.l 41), .mv (.p 4), none⟩, [0, 1, 2, 3, 4, 5, 6, 7, 8]),
        (⟨(.l 42), .iaddr none 1 (.l 40) (.l 41), none⟩, [0, 1, 2, 3, 4, 5, 6]),
        (⟨(.l 43), .load 1 false (.l 42), none⟩, [0, 1, 2, 3, 4, 5, 6]),
        (⟨(.l 44), .bin .add (.l 38) (.l 43), none⟩, []),
        (⟨(.l 45), .bin .add (.l 44) (.c (.str [10])), none⟩, []),
        (⟨(.p 3), .mv (.l 45), none⟩, [])])
      (.region [⟨(.l 46), .mv (.p 5), none⟩,
        ⟨(.p 4), .mv (.l 46), none⟩])))))
/-- stadion/stadionref05.Pack -/
def b19 : ICode :=
 .seq (.region [⟨(.p 1), .box 25 2 (.p 0), none⟩,
    ⟨(.p 2), .mv (.c (.str [])), none⟩])
  (.seq (.region [⟨(.p 3), .mv (.c (.str [])), none⟩])
   (.seq (.seq (.region [⟨(.p 4), .mv (.c (.int .i64 (0))), none⟩])
     (.block 0
      (.loop b19_1)))
    (.seq (.region [⟨(.l 47), .mv (.p 3), none⟩,
       ⟨(.p 2), .mv (.l 47), none⟩])
     (.ret))))
theorem ft19 : FT 19 = some ⟨48, [0, 1, 2, 3, 4, 5], [.var (.p 2)], b19⟩ := by kernel_rfl

def b21_0 : ICode :=
 .seq (.region [⟨(.l 35), .bin .lss (.p 13) (.p 12), none⟩])
  (.seq (.cond (.l 35)
    (.skip)
    (.exit 0))
   (.seq (.block 1
     (.seq (.region [⟨(.l 36), .mv (.p 13), none⟩,
        ⟨(.l 37), .iaddr none 1 (.p 11) (.p 13), none⟩,
        ⟨(.l 38), .load 1 false (.l 37), none⟩,
        ⟨(.p 7), .mv (.l 36), none⟩,
        ⟨(.p 8), .mv (.l 38), none⟩])
      (.seq (.region [⟨(.l 39), .mv (.p 6), none⟩,
         ⟨(.l 40), .mv (.p 8), none⟩,
         ⟨(.l 41), .call (.l 39) [(.l 40)], none⟩,
         ⟨(.p 9), .mv (.l 41), none⟩])
       (.seq (.region [⟨(.l 42), .mv (.p 9), none⟩,
          ⟨(.l 43), .bin .neq (.l 42) (.c (.int .i64 (0))), none⟩])
        (.cond (.l 43)
         (.seq (.region [⟨(.l 44), .build [.int .i64 (0), .nilsl] [], none⟩,
            ⟨(.l 45), .mv (.p 7), none⟩,
            ⟨(.l 46), .bin .add (.l 45) (.c (.int .i64 (1))), none⟩,
            ⟨(.l 47), .mv (.p 9), none⟩,
            ⟨.no, .store 2 (.p 1) (.l 44), none⟩,
            ⟨(.p 2), .mv (.l 46), none⟩,
            ⟨(.p 3), .mv (.l 47), none⟩])
          (.ret))
         (.skip))))))
    (.region [⟨(.l 48), .bin .add (.p 13) (.c (.int .i64 (1))), none⟩,
      ⟨(.p 13), .mv (.l 48), none⟩])))
/-- stadion/finish.Unpack -/
def b21 : ICode :=
 .seq (.region [⟨(.p 1), .alloc 24 [.int .i64 (0), .nilsl], none⟩,
    ⟨(.p 2), .mv (.c (.int .i64 (0))), none⟩,
    ⟨(.p 3), .mv (.c (.int .i64 (0))), none⟩])
  (.seq (.seq (.region [⟨(.l 12), .mv (.p 0), none⟩,
      ⟨(.l 13), .len .str (.l 12), none⟩,
      ⟨(.l 14), .bin .gtr (.l 13) (.c (.int .i64 (4096))), none⟩,
      ⟨(.l 15), .call (.c (.fn (.func 91) [] [])) [(.l 14), (.c (.int .i64 (26)))], none⟩,
      ⟨(.l 16), .mv (.p 0), none⟩,
      ⟨(.l 17), .call (.c (.fn (.func 92) [] [])) [(.l 16), (.c (.str [10]))], none⟩,
      ⟨(.l 18), .un .not (.l 17), none⟩,
      ⟨(.l 19), .call (.c (.fn (.func 91) [] [])) [(.l 18), (.c (.int .i64 (28)))], none⟩,
      ⟨(.l 20), .bslice 28 2 1 [.int .i64 (0)] [(0, 1, (.l 15)), (1, 1, (.l 19))], none⟩,
      ⟨(.l 21), .call (.c (.fn (.func 90) [] [])) [(.l 20)], none⟩,
      ⟨(.p 4), .mv (.l 21), none⟩])
    (.seq (.region [⟨(.l 22), .mv (.p 4), none⟩,
       ⟨(.l 23), .bin .neq (.l 22) (.c (.int .i64 (0))), none⟩])
     (.cond (.l 23)
      (.seq (.region [⟨(.l 24), .build [.int .i64 (0), .nilsl] [], none⟩,
         ⟨(.l 25), .mv (.p 4), none⟩,
         ⟨.no, .store 2 (.p 1) (.l 24), none⟩,
         ⟨(.p 2), .mv (.c (.int .i64 (0))), none⟩,
         ⟨(.p 3), .mv (.l 25), none⟩])
       (.ret))
      (.skip))))
   (.seq (.region [⟨(.l 26), .build [.nilsl] [], none⟩,
      ⟨(.l 27), .box 164 1 (.l 26), none⟩,
      ⟨(.p 5), .mv (.l 27), none⟩])
    (.seq (.region [⟨(.l 28), .mv (.p 5), none⟩,
       ⟨(.l 29), .mkfn (.func 93) [(.l 28)] [], none⟩,
       ⟨(.p 6), .mv (.l 29), none⟩])
     (.seq (.seq (.region [⟨(.l 30), .mv (.p 0), none⟩,
         ⟨(.l 31), .call (.c (.fn (.func 95) [] [])) [(.l 30), (.c (.str [10]))], none⟩,
         ⟨(.p 11), .call (.c (.fn (.func 94) [] [])) [(.l 31), (.c (.str [10]))], none⟩,
         ⟨(.p 12), .len .sl (.p 11), none⟩,
         ⟨(.p 13), .mv (.c (.int .i64 (0))), none⟩])
       (.block 0
        (.loop b21_0)))
      (.seq (.region [⟨(.l 49), .mv (.p 5), none⟩,
         ⟨(.l 50), .nilck (.l 49), none⟩,
         ⟨(.l 51), .faddr 0 (.l 50), none⟩,
         ⟨(.l 52), .load 1 false (.l 51), none⟩,
         ⟨(.l 53), .iaddr none 1 (.l 52) (.c (.int .i64 (0))), none⟩,
         ⟨(.l 54), .load 1 false (.l 53), none⟩,
         ⟨(.l 55), .len .str (.l 54), none⟩,
         ⟨(.p 10), .mv (.l 55), none⟩])
       (.seq (.seq (.region [⟨(.l 56), .mv (.p 10), none⟩,
           ⟨(.l 57), .bin .gtr (.l 56) (.c (.int .i64 (64))), none⟩])
         (.cond (.l 57)
          (.seq (.region [⟨(.l 58), .build [.int .i64 (0), .nilsl] [], none⟩,
             ⟨.no, .store 2 (.p 1) (.l 58), none⟩,
             ⟨(.p 2), .mv (.c (.int .i64 (0))), none⟩,
             ⟨(.p 3), .mv (.c (.int .i64 (3))), none⟩])
           (.ret))
          (.skip)))
        (.seq (.region [⟨(.l 59), .mv (.p 10), none⟩,
           ⟨(.l 60), .mv (.p 5), none⟩,
           ⟨(.l 61), .nilck (.l 60), none⟩,
           ⟨(.l 62), .faddr 0 (.l 61), none⟩,
           ⟨(.l 63), .load 1 false (.l 62), none⟩,
           ⟨(.l 64), .build [.int .i64 (0), .nilsl] [(0, 1, (.l 59)), (1, 1, (.l 63))], none⟩,
           ⟨.no, .store 2 (.p 1) (.l 64), none⟩,
           ⟨(.p 2), .mv (.c (.int .i64 (0))), none⟩,
           ⟨(.p 3), .mv (.c (.int .i64 (0))), none⟩])
         (.ret))))))))
theorem ft21 : FT 21 = some ⟨65, [0, 2, 3, 4, 5, 6, 7, 8, 9, 10, 11, 32, 33, 34], [.cell 2 true (.p 1), .var (.p 2), .var (.p 3)], b21⟩ := by kernel_rfl

def b22_0 : ICode :=
 .seq (.seq (.region [⟨(.l 39), .mv (.p 0), none⟩,
     ⟨(.l 40), .mv (.p 7), none⟩,
     ⟨(.l 41), .index (.l 39) (.l 40), none⟩,
     ⟨(.l 42), .bin .neq (.l 41) (.c (.int .u8 (10))), none⟩])
   (.cond (.l 42)
    (.skip)
    (.exit 2)))
  (.block 3
   (.region [⟨(.l 43), .mv (.p 7), none⟩,
     ⟨(.l 44), .bin .add (.l 43) (.c (.int .i64 (1))), none⟩,
     ⟨(.p 7), .mv (.l 44), none⟩]))
def b22_1 : ICode :=
 .seq (.seq (.region [⟨(.l 46), .mv (.p 8), none⟩,
     ⟨(.l 47), .mv (.p 7), none⟩,
     ⟨(.l 48), .bin .lss (.l 46) (.l 47), none⟩,
     ⟨(.l 49), .mv (.l 48), none⟩,
     ⟨(.l 50), .mv (.p 0), some ((.l 49), true)⟩,
     ⟨(.l 51), .mv (.p 8), some ((.l 49), true)⟩,
     ⟨(.l 52), .index (.l 50) (.l 51), some ((.l 49), true)⟩,
     ⟨(.l 53), .bin .neq (.l 52) (.c (.int .u8 (32))), some ((.l 49), true)⟩,
     ⟨(.l 54), .pick (.l 49) (.l 53) (.c (.bool false)), none⟩])
   (.cond (.l 54)
    (.skip)
    (.exit 4)))
  (.block 5
   (.region [⟨(.l 55), .mv (.p 8), none⟩,
     ⟨(.l 56), .bin .add (.l 55) (.c (.int .i64 (1))), none⟩,
     ⟨(.p 8), .mv (.l 56), none⟩]))
def b22_2 : ICode :=
 .seq (.seq (.region [⟨(.l 73), .mv (.p 12), none⟩,
     ⟨(.l 74), .mv (.p 11), none⟩,
     ⟨(.l 75), .len .str (.l 74), none⟩,
     ⟨(.l 76), .bin .lss (.l 73) (.l 75), none⟩])
   (.cond (.l 76)
    (.skip)
    (.exit 6)))
  (.seq (.block 7
    (.region [⟨(.l 79), .mv (.p 10), none⟩,
      ⟨(.l 80), .mv (.l 79), none⟩,
      ⟨(.l 81), .mv (.p 11), some ((.l 80), true)⟩,
      ⟨(.l 82), .mv (.p 12), some ((.l 80), true)⟩,
      ⟨(.l 83), .index (.l 81) (.l 82), some ((.l 80), true)⟩,
      ⟨(.l 84), .bin .neq (.l 83) (.c (.int .u8 (32))), some ((.l 80), true)⟩,
      ⟨(.l 85), .pick (.l 80) (.l 84) (.c (.bool false)), none⟩,
      ⟨(.p 10), .mv (.l 85), none⟩]))
   (.region [⟨(.l 77), .mv (.p 12), none⟩,
     ⟨(.l 78), .bin .add (.l 77) (.c (.int .i64 (1))), none⟩,
     ⟨(.p 12), .mv (.l 78), none⟩]))
def b22_3 : ICode :=
 .seq (.seq (.region [⟨(.l 120), .mv (.p 14), none⟩,
     ⟨(.l 121), .mv (.p 9), none⟩,
     ⟨(.l 122), .bin .lss (.l 120) (.l 121), none⟩])
   (.cond (.l 122)
    (.skip)
    (.exit 8)))
  (.seq (.block 9
    (.region [⟨(.l 125), .faddr 1 (.p 4), none⟩,
      ⟨(.l 126), .load 1 false (.l 125), none⟩,
      ⟨(.l 127), .mv (.p 11), none⟩,
      ⟨(.l 128), .bslice 9 1 1 [.str []] [(0, 1, (.l 127))], none⟩,
      ⟨(.l 129), .append 9 1 16 (.l 126) (.l 128), none⟩,
      ⟨(.l 130), .faddr 1 (.p 4), none⟩,
      ⟨.no, .store 1 (.l 130) (.l 129), none⟩]))
   (.region [⟨(.l 123), .mv (.p 14), none⟩,
     ⟨(.l 124), .bin .add (.l 123) (.c (.int .i64 (1))), none⟩,
     ⟨(.p 14), .mv (.l 124), none⟩]))
def b22_4 : ICode :=
 .seq (.seq (.region [⟨(.l 32), .mv (.p 6), none⟩,
     ⟨(.l 33), .mv (.p 0), none⟩,
     ⟨(.l 34), .len .str (.l 33), none⟩,
     ⟨(.l 35), .bin .lss (.l 32) (.l 34), none⟩])
   (.cond (.l 35)
    (.skip)
    (.exit 0)))
  (.block 1
   (.seq (.region [⟨(.l 36), .mv (.p 5), none⟩,
      ⟨(.l 37), .bin .add (.l 36) (.c (.int .i64 (1))), none⟩,
      ⟨(.p 5), .mv (.l 37), none⟩])
    (.seq (.region [⟨(.l 38), .mv (.p 6), none⟩,
       ⟨(.p 7), .mv (.l 38), none⟩])
     (.seq (.block 2
       (.loop b22_0))
      (.seq (.region [⟨(.l 45), .mv (.p 6), none⟩,
         ⟨(.p 8), .mv (.l 45), none⟩])
       (.seq (.block 4
         (.loop b22_1))
        (.seq (.region [⟨(.l 58), .mv (.p 0), none⟩,
           ⟨(.l 59), .mv (.p 6), none⟩,
           ⟨(.l 60), .mv (.p 8), none⟩,
           ⟨(.l 61), .slice .str 1 (.l 58) (some (.l 59)) (some (.l 60)) none, none⟩,
           ⟨(.l 62), .call (.c (.fn (.func 96) [] [])) [(.l 61)], none⟩,
           ⟨(.l 57), .mv (.l 62), none⟩,
           ⟨(.l 63), .extract 0 (.l 57), none⟩,
           ⟨(.l 64), .extract 1 (.l 57), none⟩,
           ⟨(.p 9), .mv (.l 63), none⟩,
           ⟨(.p 10), .mv (.l 64), none⟩])
         (.seq (.region [⟨(.p 11), .mv (.c (.str [])), none⟩])
          (.seq (.seq (.region [⟨(.l 65), .mv (.p 8), none⟩,
              ⟨(.l 66), .mv (.p 7), none⟩,
              ⟨(.l 67), .bin .lss (.l 65) (.l 66), none⟩])
            (.cond (.l 67)
             (.region [⟨(.l 68), .mv (.p 0), none⟩,
               ⟨(.l 69), .mv (.p 8), none⟩,
               ⟨(.l 70), .bin .add (.l 69) (.c (.int .i64 (1))), none⟩,
               ⟨(.l 71), .mv (.p 7), none⟩,
               ⟨(.l 72), .slice .str 1 (.l 68) (some (.l 70)) (some (.l 71)) none, none⟩,
               ⟨(.p 11), .mv (.l 72), none⟩])
             (.skip)))
           (.seq (.seq (.region [⟨(.p 12), .mv (.c (.int .i64 (0))), none⟩])
             (.block 6
              (.loop b22_2)))
            (.seq (.seq (.region [⟨(.l 86), .mv (.p 10), none⟩,
                ⟨(.l 87), .un .not (.l 86), none⟩,
                ⟨(.l 88), .mv (.l 87), none⟩,
                ⟨(.l 89), .mv (.p 11), some ((.l 88), false)⟩,
                ⟨(.l 90), .bin .eql (.l 89) (.c (.str [])), some ((.l 88), false)⟩,
                ⟨(.l 91), .pick (.l 88) (.c (.bool true)) (.l 90), none⟩])
              (.cond (.l 91)
               (.seq (.region [⟨(.l 92), .build [.int .i64 (0), .nilsl] [], none⟩,
                  ⟨(.l 93), .mv (.p 5), none⟩,
                  ⟨.no, .store 2 (.p 1) (.l 92), none⟩,
                  ⟨(.p 2), .mv (.l 93), none⟩,
                  ⟨(.p 3), .mv (.c (.int .i64 (25))), none⟩])
                (.ret))
               (.skip)))
             (.seq (.seq (.region [⟨(.l 94), .mv (.p 9), none⟩,
                 ⟨(.l 95), .bin .eql (.l 94) (.c (.int .i64 (0))), none⟩])
               (.cond (.l 95)
                (.seq (.region [⟨(.l 96), .build [.int .i64 (0), .nilsl] [], none⟩,
                   ⟨(.l 97), .mv (.p 5), none⟩,
                   ⟨.no, .store 2 (.p 1) (.l 96), none⟩,
                   ⟨(.p 2), .mv (.l 97), none⟩,
                   ⟨(.p 3), .mv (.c (.int .i64 (3))), none⟩])
                 (.ret))
                (.skip)))
              (.seq (.seq (.region [⟨(.l 98), .faddr 1 (.p 4), none⟩,
                  ⟨(.l 99), .load 1 false (.l 98), none⟩,
                  ⟨(.l 100), .len .sl (.l 99), none⟩,
                  ⟨(.l 101), .mv (.p 9), none⟩,
                  ⟨(.l 102), .bin .add (.l 100) (.l 101), none⟩,
                  ⟨(.l 103), .bin .gtr (.l 102) (.c (.int .i64 (4096))), none⟩])
                (.cond (.l 103)
                 (.seq (.region [⟨(.l 104), .build [.int .i64 (0), .nilsl] [], none⟩,
                    ⟨(.l 105), .mv (.p 5), none⟩,
                    ⟨.no, .store 2 (.p 1) (.l 104), none⟩,
                    ⟨(.p 2), .mv (.l 105), none⟩,
                    ⟨(.p 3), .mv (.c (.int .i64 (5))), none⟩])
                  (.ret))
                 (.skip)))
               (.seq (.seq (.region [⟨(.l 106), .mv (.p 5), none⟩,
                   ⟨(.l 107), .bin .eql (.l 106) (.c (.int .i64 (1))), none⟩])
                 (.cond (.l 107)
                  (.region [⟨(.l 108), .mv (.p 11), none⟩,
                    ⟨(.l 109), .len .str (.l 108), none⟩,
                    ⟨(.l 110), .faddr 0 (.p 4), none⟩,
                    ⟨.no, .store 1 (.l 110) (.l 109), none⟩])
                  (.skip)))
                (.seq (.region [⟨(.l 111), .mv (.p 11), none⟩,
                   ⟨(.l 112), .faddr 0 (.p 4), none⟩,
                   ⟨(.l 113), .load 1 false (.l 112), none⟩,
                   ⟨(.l 114), .call (.c (.fn (.func 88) [] [])) [(.l 111), (.l 113)], none⟩,
                   ⟨(.p 13), .mv (.l 114), none⟩])
                 (.seq (.seq (.region [⟨(.l 115), .mv (.p 13), none⟩,
                     ⟨(.l 116), .bin .neq (.l 115) (.c (.int .i64 (0))), none⟩])
                   (.cond (.l 116)
                    (.seq (.region [⟨(.l 117), .build [.int .i64 (0), .nilsl] [], none⟩,
                       ⟨(.l 118), .mv (.p 5), none⟩,
                       ⟨(.l 119), .mv (.p 13), none⟩,
                       ⟨.no, .store 2 (.p 1) (.l 117), none⟩,
                       ⟨(.p 2), .mv (.l 118), none⟩,
                       ⟨(.p 3), .mv (.l 119), none⟩])
                     (.ret))
                    (.skip)))
                  (.seq (.seq (.region [⟨(.p 14), .mv (.c (.int .i64 (0))), none⟩])
                    (.block 8
                     (.loop b22_3)))
                   (.region [⟨(.l 131), .mv (.p 7), none⟩,
                     ⟨(.l 132), .bin .add (.l 131) (.c (.int .i64 (1))), none⟩,
                     ⟨(.p 6), .mv (.l 132), none⟩]))))))))))))))))))
/-- stadion/stadionref05.Unpack -/
def b22 : ICode :=
 .seq (.region [⟨(.p 1), .alloc 25 [.int .i64 (0), .nilsl], none⟩,
    ⟨(.p 2), .mv (.c (.int .i64 (0))), none⟩,
    ⟨(.p 3), .mv (.c (.int .i64 (0))), none⟩])
  (.seq (.seq (.region [⟨(.l 16), .mv (.p 0), none⟩,
      ⟨(.l 17), .len .str (.l 16), none⟩,
      ⟨(.l 18), .bin .gtr (.l 17) (.c (.int .i64 (4096))), none⟩])
    (.cond (.l 18)
     (.seq (.region [⟨(.l 19), .build [.int .i64 (0), .nilsl] [], none⟩,
        ⟨.no, .store 2 (.p 1) (.l 19), none⟩,
        ⟨(.p 2), .mv (.c (.int .i64 (0))), none⟩,
        ⟨(.p 3), .mv (.c (.int .i64 (26))), none⟩])
      (.ret))
     (.skip)))
   (.seq (.seq (.region [⟨(.l 20), .mv (.p 0), none⟩,
       ⟨(.l 21), .len .str (.l 20), none⟩,
       ⟨(.l 22), .bin .eql (.l 21) (.c (.int .i64 (0))), none⟩,
       ⟨(.l 23), .mv (.l 22), none⟩,
       ⟨(.l 24), .mv (.p 0), some ((.l 23), false)⟩,
       ⟨(.l 25), .mv (.p 0), some ((.l 23), false)⟩,
       ⟨(.l 26), .len .str (.l 25), some ((.l 23), false)⟩,
       ⟨(.l 27), .bin .sub (.l 26) (.c (.int .i64 (1))), some ((.l 23), false)⟩,
       ⟨(.l 28), .index (.l 24) (.l 27), some ((.l 23), false)⟩,
       ⟨(.l 29), .bin .neq (.l 28) (.c (.int .u8 (10))), some ((.l 23), false)⟩,
       ⟨(.l 30), .pick (.l 23) (.c (.bool true)) (.l 29), none⟩])
     (.cond (.l 30)
      (.seq (.region [⟨(.l 31), .build [.int .i64 (0), .nilsl] [], none⟩,
         ⟨.no, .store 2 (.p 1) (.l 31), none⟩,
         ⟨(.p 2), .mv (.c (.int .i64 (0))), none⟩,
         ⟨(.p 3), .mv (.c (.int .i64 (28))), none⟩])
       (.ret))
      (.skip)))
    (.seq (.region [⟨(.p 4), .alloc 25 [.int .i64 (0), .nilsl], none⟩])
     (.seq (.region [⟨(.p 5), .mv (.c (.int .i64 (0))), none⟩])
      (.seq (.seq (.region [⟨(.p 6), .mv (.c (.int .i64 (0))), none⟩])
        (.block 0
         (.loop b22_4)))
       (.seq (.seq (.region [⟨(.l 133), .faddr 0 (.p 4), none⟩,
           ⟨(.l 134), .load 1 false (.l 133), none⟩,
           ⟨(.l 135), .bin .gtr (.l 134) (.c (.int .i64 (64))), none⟩])
         (.cond (.l 135)
          (.seq (.region [⟨(.l 136), .build [.int .i64 (0), .nilsl] [], none⟩,
             ⟨.no, .store 2 (.p 1) (.l 136), none⟩,
             ⟨(.p 2), .mv (.c (.int .i64 (0))), none⟩,
             ⟨(.p 3), .mv (.c (.int .i64 (3))), none⟩])
           (.ret))
          (.skip)))
        (.seq (.region [⟨(.l 137), .load 2 true (.p 4), none⟩,
           ⟨.no, .store 2 (.p 1) (.l 137), none⟩,
           ⟨(.p 2), .mv (.c (.int .i64 (0))), none⟩,
           ⟨(.p 3), .mv (.c (.int .i64 (0))), none⟩])
         (.ret))))))))
theorem ft22 : FT 22 = some ⟨138, [0, 2, 3, 4, 5, 6, 7, 8, 9, 10, 11, 12, 13, 14, 15], [.cell 2 true (.p 1), .var (.p 2), .var (.p 3)], b22⟩ := by kernel_rfl

/-- stadion/finish.runs -/
def b82 : ICode :=
 .seq (.region [⟨(.p 1), .box 22 1 (.p 0), none⟩,
    ⟨(.p 2), .mv (.c (.nilfn)), none⟩])
  (.seq (.region [⟨(.l 3), .mkfn (.func 155) [] [(.p 1)], none⟩,
     ⟨(.p 2), .mv (.l 3), none⟩])
   (.ret))
theorem ft82 : FT 82 = some ⟨4, [0, 1, 2], [.var (.p 2)], b82⟩ := by kernel_rfl

/-- stadion/stadionref05.decimal -/
def b89 : ICode :=
 .seq (.region [⟨(.p 1), .mv (.c (.str [])), none⟩])
  (.seq (.region [⟨(.l 3), .mv (.p 0), none⟩,
     ⟨(.l 4), .call (.c (.fn (.func 49) [] [])) [(.l 3)], none⟩,
     ⟨(.p 1), .mv (.l 4), none⟩])
   (.ret))
theorem ft89 : FT 89 = some ⟨5, [0, 2], [.var (.p 1)], b89⟩ := by kernel_rfl

def b96_0 : ICode :=
 .seq (.seq (.region [⟨(.l 24), .mv (.p 4), none⟩,
     ⟨(.l 25), .mv (.p 0), none⟩,
     ⟨(.l 26), .len .str (.l 25), none⟩,
     ⟨(.l 27), .bin .lss (.l 24) (.l 26), none⟩])
   (.cond (.l 27)
    (.skip)
    (.exit 0)))
  (.seq (.block 1
    (.seq (.seq (.region [⟨(.l 30), .mv (.p 0), none⟩,
        ⟨(.l 31), .mv (.p 4), none⟩,
        ⟨(.l 32), .index (.l 30) (.l 31), none⟩,
        ⟨(.l 33), .bin .lss (.l 32) (.c (.int .u8 (48))), none⟩,
        ⟨(.l 34), .mv (.l 33), none⟩,
        ⟨(.l 35), .mv (.p 0), some ((.l 34), false)⟩,
        ⟨(.l 36), .mv (.p 4), some ((.l 34), false)⟩,
        ⟨(.l 37), .index (.l 35) (.l 36), some ((.l 34), false)⟩,
        ⟨(.l 38), .bin .gtr (.l 37) (.c (.int .u8 (57))), some ((.l 34), false)⟩,
        ⟨(.l 39), .pick (.l 34) (.c (.bool true)) (.l 38), none⟩])
      (.cond (.l 39)
       (.seq (.region [⟨(.p 1), .mv (.c (.int .i64 (0))), none⟩,
          ⟨(.p 2), .mv (.c (.bool false)), none⟩])
        (.ret))
       (.skip)))
     (.region [⟨(.l 40), .mv (.p 3), none⟩,
       ⟨(.l 41), .bin .mul (.c (.int .i64 (10))) (.l 40), none⟩,
       ⟨(.l 42), .mv (.p 0), none⟩,
       ⟨(.l 43), .mv (.p 4), none⟩,
       ⟨(.l 44), .index (.l 42) (.l 43), none⟩,
       ⟨(.l 45), .bin .sub (.l 44) (.c (.int .u8 (48))), none⟩,
       ⟨(.l 46), .convInt .i64 (.l 45), none⟩,
       ⟨(.l 47), .bin .add (.l 41) (.l 46), none⟩,
       ⟨(.p 3), .mv (.l 47), none⟩])))
   (.region [⟨(.l 28), .mv (.p 4), none⟩,
     ⟨(.l 29), .bin .add (.l 28) (.c (.int .i64 (1))), none⟩,
     ⟨(.p 4), .mv (.l 29), none⟩]))
/-- stadion/stadionref05.integer -/
def b96 : ICode :=
 .seq (.region [⟨(.p 1), .mv (.c (.int .i64 (0))), none⟩,
    ⟨(.p 2), .mv (.c (.bool false)), none⟩])
  (.seq (.seq (.region [⟨(.l 6), .mv (.p 0), none⟩,
      ⟨(.l 7), .len .str (.l 6), none⟩,
      ⟨(.l 8), .bin .eql (.l 7) (.c (.int .i64 (0))), none⟩,
      ⟨(.l 9), .mv (.l 8), none⟩,
      ⟨(.l 10), .mv (.p 0), some ((.l 9), false)⟩,
      ⟨(.l 11), .len .str (.l 10), some ((.l 9), false)⟩,
      ⟨(.l 12), .bin .gtr (.l 11) (.c (.int .i64 (9))), some ((.l 9), false)⟩,
      ⟨(.l 13), .pick (.l 9) (.c (.bool true)) (.l 12), none⟩,
      ⟨(.l 14), .mv (.l 13), none⟩,
      ⟨(.l 15), .mv (.p 0), some ((.l 14), false)⟩,
      ⟨(.l 16), .len .str (.l 15), some ((.l 14), false)⟩,
      ⟨(.l 17), .bin .gtr (.l 16) (.c (.int .i64 (1))), some ((.l 14), false)⟩,
      ⟨(.l 18), .mv (.l 17), some ((.l 14), false)⟩,
      ⟨(.l 19), .mv (.p 0), some ((.l 18), true)⟩,
      ⟨(.l 20), .index (.l 19) (.c (.int .i64 (0))), some ((.l 18), true)⟩,
      ⟨(.l 21), .bin .eql (.l 20) (.c (.int .u8 (48))), some ((.l 18), true)⟩,
      ⟨(.l 22), .pick (.l 18) (.l 21) (.c (.bool false)), some ((.l 14), false)⟩,
      ⟨(.l 23), .pick (.l 14) (.c (.bool true)) (.l 22), none⟩])
    (.cond (.l 23)
     (.seq (.region [⟨(.p 1), .mv (.c (.int .i64 (0))), none⟩,
        ⟨(.p 2), .mv (.c (.bool false)), none⟩])
      (.ret))
     (.skip)))
   (.seq (.region [⟨(.p 3), .mv (.c (.int .i64 (0))), none⟩])
    (.seq (.seq (.region [⟨(.p 4), .mv (.c (.int .i64 (0))), none⟩])
      (.block 0
       (.loop b96_0)))
     (.seq (.region [⟨(.l 48), .mv (.p 3), none⟩,
        ⟨(.p 1), .mv (.l 48), none⟩,
        ⟨(.p 2), .mv (.c (.bool true)), none⟩])
      (.ret)))))
theorem ft96 : FT 96 = some ⟨49, [0, 2, 3, 4, 5], [.var (.p 1), .var (.p 2)], b96⟩ := by kernel_rfl

/-- stadion/finish.integer -/
def b161 : ICode :=
 .seq (.region [⟨(.p 1), .mv (.c (.int .i64 (0))), none⟩,
    ⟨(.p 2), .mv (.c (.bool false)), none⟩])
  (.seq (.seq (.region [⟨(.l 6), .mv (.p 0), none⟩,
      ⟨(.l 7), .bin .eql (.l 6) (.c (.str [])), none⟩,
      ⟨(.l 8), .mv (.l 7), none⟩,
      ⟨(.l 9), .mv (.p 0), some ((.l 8), false)⟩,
      ⟨(.l 10), .len .str (.l 9), some ((.l 8), false)⟩,
      ⟨(.l 11), .bin .gtr (.l 10) (.c (.int .i64 (9))), some ((.l 8), false)⟩,
      ⟨(.l 12), .pick (.l 8) (.c (.bool true)) (.l 11), none⟩,
      ⟨(.l 13), .mv (.l 12), none⟩,
      ⟨(.l 14), .mv (.p 0), some ((.l 13), false)⟩,
      ⟨(.l 15), .call (.c (.fn (.func 211) [] [])) [(.l 14), (.c (.str [48, 49, 50, 51, 52, 53, 54, 55, 56, 57]))], some ((.l 13), false)⟩,
      ⟨(.l 16), .bin .neq (.l 15) (.c (.str [])), some ((.l 13), false)⟩,
      ⟨(.l 17), .pick (.l 13) (.c (.bool true)) (.l 16), none⟩,
      ⟨(.l 18), .mv (.l 17), none⟩,
      ⟨(.l 19), .mv (.p 0), some ((.l 18), false)⟩,
      ⟨(.l 20), .index (.l 19) (.c (.int .i64 (0))), some ((.l 18), false)⟩,
      ⟨(.l 21), .bin .eql (.l 20) (.c (.int .u8 (48))), some ((.l 18), false)⟩,
      ⟨(.l 22), .mv (.l 21), some ((.l 18), false)⟩,
      ⟨(.l 23), .mv (.p 0), some ((.l 22), true)⟩,
      ⟨(.l 24), .bin .neq (.l 23) (.c (.str [48])), some ((.l 22), true)⟩,
      ⟨(.l 25), .pick (.l 22) (.l 24) (.c (.bool false)), some ((.l 18), false)⟩,
      ⟨(.l 26), .pick (.l 18) (.c (.bool true)) (.l 25), none⟩])
    (.cond (.l 26)
     (.seq (.region [⟨(.p 1), .mv (.c (.int .i64 (0))), none⟩,
        ⟨(.p 2), .mv (.c (.bool false)), none⟩])
      (.ret))
     (.skip)))
   (.seq (.region [⟨(.l 28), .mv (.p 0), none⟩,
      ⟨(.l 29), .call (.c (.fn (.func 212) [] [])) [(.l 28)], none⟩,
      ⟨(.l 27), .mv (.l 29), none⟩,
      ⟨(.l 30), .extract 0 (.l 27), none⟩,
      ⟨(.l 31), .extract 1 (.l 27), none⟩,
      ⟨(.p 3), .mv (.l 30), none⟩,
      ⟨(.p 4), .mv (.l 31), none⟩])
    (.seq (.draw [(⟨(.l 32), .mv (.p 3), none⟩, []),
       (⟨(.l 33), .mv (.p 4), none⟩, [0]),
       (⟨(.l 34), .eq false (.iface false) (.l 33) (.c (.niliface)), none⟩, [0]),
       (⟨(.p 1), .mv (.l 32), none⟩, [1, 2]),
       (⟨(.p 2), .mv (.l 34), none⟩, [])])
     (.ret))))
theorem ft161 : FT 161 = some ⟨35, [0, 2, 3, 4, 5], [.var (.p 1), .var (.p 2)], b161⟩ := by kernel_rfl

def b155_0 : ICode :=
 .seq (.seq (.region [⟨(.l 5), .mv (.p 3), none⟩,
     ⟨(.l 6), .load 1 false (.p 1), none⟩,
     ⟨(.l 7), .len .sl (.l 6), none⟩,
     ⟨(.l 8), .bin .leq (.l 5) (.l 7), none⟩])
   (.cond (.l 8)
    (.skip)
    (.exit 0)))
  (.seq (.block 1
    (.seq (.seq (.draw [(⟨(.l 11), .mv (.p 3), none⟩, []),
        (⟨(.l 12), .load 1 false (.p 1), none⟩, [0]),
        (⟨(.l 13), .len .sl (.l 12), none⟩, [0]),
        (⟨(.l 14), .bin .lss (.l 11) (.l 13), none⟩, []),
        (⟨(.l 15), .mv (.l 14), none⟩, []),
        (⟨(.l 16), .load 1 false (.p 1), some ((.l 15), true)⟩, []),
        (⟨(.l 17), .mv (.p 3), some ((.l 15), true)⟩, [5]),
        (⟨(.l 18), .iaddr none 1 (.l 16) (.l 17), some ((.l 15), true)⟩, []),
        (⟨(.l 19), .load 1 false (.l 18), some ((.l 15), true)⟩, []),
        (⟨(.l 20), .load 1 false (.p 1), some ((.l 15), true)⟩, [5, 6, 7, 8]),
        (⟨(.l 21), .mv (.p 2), some ((.l 15), true)⟩, [5, 6, 7, 8, 9]),
        (⟨(.l 22), .iaddr none 1 (.l 20) (.l 21), some ((.l 15), true)⟩, [5, 6, 7, 8]),
        (⟨(.l 23), .load 1 false (.l 22), some ((.l 15), true)⟩, [5, 6, 7, 8]),
        (⟨(.l 24), .bin .eql (.l 19) (.l 23), some ((.l 15), true)⟩, []),
        (⟨(.l 25), .pick (.l 15) (.l 24) (.c (.bool false)), none⟩, [])])
      (.cond (.l 25)
       (.exit 1)
       (.skip)))
     (.seq (.seq (.region [⟨(.l 26), .mv (.p 0), none⟩,
         ⟨(.l 27), .mv (.p 3), none⟩,
         ⟨(.l 28), .mv (.p 2), none⟩,
         ⟨(.l 29), .bin .sub (.l 27) (.l 28), none⟩,
         ⟨(.l 30), .load 1 false (.p 1), none⟩,
         ⟨(.l 31), .mv (.p 2), none⟩,
         ⟨(.l 32), .iaddr none 1 (.l 30) (.l 31), none⟩,
         ⟨(.l 33), .load 1 false (.l 32), none⟩,
         ⟨(.l 34), .call (.l 26) [(.l 29), (.l 33)], none⟩,
         ⟨(.l 35), .un .not (.l 34), none⟩])
       (.cond (.l 35)
        (.ret)
        (.skip)))
      (.region [⟨(.l 36), .mv (.p 3), none⟩,
        ⟨(.p 2), .mv (.l 36), none⟩]))))
   (.region [⟨(.l 9), .mv (.p 3), none⟩,
     ⟨(.l 10), .bin .add (.l 9) (.c (.int .i64 (1))), none⟩,
     ⟨(.p 3), .mv (.l 10), none⟩]))
/-- stadion/finish.runs$1 -/
def b155 : ICode :=
 .seq (.region [⟨(.p 2), .mv (.c (.int .i64 (0))), none⟩])
  (.seq (.region [⟨(.p 3), .mv (.c (.int .i64 (1))), none⟩])
   (.block 0
    (.loop b155_0)))
theorem ft155 : FT 155 = some ⟨37, [0, 1, 3, 4], [], b155⟩ := by kernel_rfl

/-- (*strings.Builder).WriteString -/
def b83 : ICode :=
 .seq (.region [⟨(.p 2), .mv (.c (.int .i64 (0))), none⟩,
    ⟨(.p 3), .mv (.c (.niliface)), none⟩])
  (.seq (.region [⟨(.l 6), .mv (.p 0), none⟩,
     ⟨(.l 7), .call (.c (.fn (.func 156) [] [])) [(.l 6)], none⟩])
   (.seq (.region [⟨(.l 8), .mv (.p 0), none⟩,
      ⟨(.l 9), .mv (.p 0), none⟩,
      ⟨(.l 10), .nilck (.l 9), none⟩,
      ⟨(.l 11), .faddr 1 (.l 10), none⟩,
      ⟨(.l 12), .load 1 false (.l 11), none⟩,
      ⟨(.l 13), .mv (.p 1), none⟩,
      ⟨(.l 14), .append 5 1 1 (.l 12) (.l 13), none⟩,
      ⟨(.l 15), .nilck (.l 8), none⟩,
      ⟨(.l 16), .faddr 1 (.l 15), none⟩,
      ⟨.no, .store 1 (.l 16) (.l 14), none⟩])
    (.seq (.region [⟨(.l 17), .mv (.p 1), none⟩,
       ⟨(.l 18), .len .str (.l 17), none⟩,
       ⟨(.p 2), .mv (.l 18), none⟩,
       ⟨(.p 3), .mv (.c (.niliface)), none⟩])
     (.ret))))
theorem ft83 : FT 83 = some ⟨19, [0, 1, 4, 5], [.var (.p 2), .var (.p 3)], b83⟩ := by kernel_rfl

/-- (*strings.Builder).copyCheck -/
def b156 : ICode :=
 .seq (.region [⟨(.l 2), .mv (.p 0), none⟩,
    ⟨(.l 3), .nilck (.l 2), none⟩,
    ⟨(.l 4), .faddr 0 (.l 3), none⟩,
    ⟨(.l 5), .load 1 false (.l 4), none⟩,
    ⟨(.l 6), .eq false (.ref .ptr) (.l 5) (.c (.nilp)), none⟩])
  (.cond (.l 6)
   (.region [⟨(.l 7), .mv (.p 0), none⟩,
     ⟨(.l 8), .mv (.p 0), none⟩,
     ⟨(.l 9), .uptr none (.l 8), none⟩,
     ⟨(.l 10), .call (.c (.fn (.func 208) [] [])) [(.l 9)], none⟩,
     ⟨(.l 11), .uptr (some (146, 2)) (.l 10), none⟩,
     ⟨(.l 12), .nilck (.l 7), none⟩,
     ⟨(.l 13), .faddr 0 (.l 12), none⟩,
     ⟨.no, .store 1 (.l 13) (.l 11), none⟩])
   (.seq (.region [⟨(.l 14), .mv (.p 0), none⟩,
      ⟨(.l 15), .nilck (.l 14), none⟩,
      ⟨(.l 16), .faddr 0 (.l 15), none⟩,
      ⟨(.l 17), .load 1 false (.l 16), none⟩,
      ⟨(.l 18), .mv (.p 0), none⟩,
      ⟨(.l 19), .eqp true (.l 17) (.l 18), none⟩])
    (.cond (.l 19)
     (.bad)
     (.skip))))
theorem ft156 : FT 156 = some ⟨20, [0], [], b156⟩ := by kernel_rfl

/-- (*strings.Builder).Len -/
def b85 : ICode :=
 .seq (.region [⟨(.p 1), .mv (.c (.int .i64 (0))), none⟩])
  (.seq (.region [⟨(.l 3), .mv (.p 0), none⟩,
     ⟨(.l 4), .nilck (.l 3), none⟩,
     ⟨(.l 5), .faddr 1 (.l 4), none⟩,
     ⟨(.l 6), .load 1 false (.l 5), none⟩,
     ⟨(.l 7), .len .sl (.l 6), none⟩,
     ⟨(.p 1), .mv (.l 7), none⟩])
   (.ret))
theorem ft85 : FT 85 = some ⟨8, [0, 2], [.var (.p 1)], b85⟩ := by kernel_rfl

/-- (*strings.Builder).String -/
def b86 : ICode :=
 .seq (.region [⟨(.p 1), .mv (.c (.str [])), none⟩])
  (.seq (.draw [(⟨(.l 3), .mv (.p 0), none⟩, []),
     (⟨(.l 4), .nilck (.l 3), none⟩, []),
     (⟨(.l 5), .faddr 1 (.l 4), none⟩, []),
     (⟨(.l 6), .load 1 false (.l 5), none⟩, []),
     (⟨(.l 7), .sdata (.l 6), none⟩, []),
     (⟨(.l 8), .mv (.p 0), none⟩, [0, 1, 2, 3, 4]),
     (⟨(.l 9), .nilck (.l 8), none⟩, [0, 1, 2, 3, 4]),
     (⟨(.l 10), .faddr 1 (.l 9), none⟩, [0, 1, 2, 3, 4]),
     (⟨(.l 11), .load 1 false (.l 10), none⟩, [0, 1, 2, 3, 4]),
     (⟨(.l 12), .len .sl (.l 11), none⟩, [0, 1, 2, 3, 4]),
     (⟨(.l 13), .ustr 5 (.l 7) (.l 12), none⟩, []),
     (⟨(.p 1), .mv (.l 13), none⟩, [])])
   (.ret))
theorem ft86 : FT 86 = some ⟨14, [0, 2], [.var (.p 1)], b86⟩ := by kernel_rfl

/-- (*stadion/finish.unpacker).take -/
def b93 : ICode :=
 .seq (.region [⟨(.p 2), .mv (.c (.int .i64 (0))), none⟩])
  (.seq (.region [⟨(.l 14), .mv (.p 1), none⟩,
     ⟨(.l 15), .call (.c (.fn (.func 160) [] [])) [(.l 14), (.c (.str [32]))], none⟩,
     ⟨(.l 13), .mv (.l 15), none⟩,
     ⟨(.l 16), .extract 0 (.l 13), none⟩,
     ⟨(.l 17), .extract 1 (.l 13), none⟩,
     ⟨(.l 18), .extract 2 (.l 13), none⟩,
     ⟨(.p 3), .mv (.l 16), none⟩,
     ⟨(.p 4), .mv (.l 17), none⟩,
     ⟨(.p 5), .mv (.l 18), none⟩])
   (.seq (.region [⟨(.l 20), .mv (.p 3), none⟩,
      ⟨(.l 21), .call (.c (.fn (.func 161) [] [])) [(.l 20)], none⟩,
      ⟨(.l 19), .mv (.l 21), none⟩,
      ⟨(.l 22), .extract 0 (.l 19), none⟩,
      ⟨(.l 23), .extract 1 (.l 19), none⟩,
      ⟨(.p 6), .mv (.l 22), none⟩,
      ⟨(.p 7), .mv (.l 23), none⟩])
    (.seq (.region [⟨(.l 24), .mv (.p 5), none⟩,
       ⟨(.l 25), .mv (.l 24), none⟩,
       ⟨(.l 26), .mv (.p 7), some ((.l 25), true)⟩,
       ⟨(.l 27), .pick (.l 25) (.l 26) (.c (.bool false)), none⟩,
       ⟨(.l 28), .mv (.l 27), none⟩,
       ⟨(.l 29), .mv (.p 4), some ((.l 28), true)⟩,
       ⟨(.l 30), .bin .neq (.l 29) (.c (.str [])), some ((.l 28), true)⟩,
       ⟨(.l 31), .pick (.l 28) (.l 30) (.c (.bool false)), none⟩,
       ⟨(.l 32), .mv (.l 31), none⟩,
       ⟨(.l 33), .mv (.p 4), some ((.l 32), true)⟩,
       ⟨(.l 34), .call (.c (.fn (.func 162) [] [])) [(.l 33), (.c (.str [32]))], some ((.l 32), true)⟩,
       ⟨(.l 35), .un .not (.l 34), some ((.l 32), true)⟩,
       ⟨(.l 36), .pick (.l 32) (.l 35) (.c (.bool false)), none⟩,
       ⟨(.p 8), .mv (.l 36), none⟩])
     (.seq (.region [⟨(.l 37), .mv (.p 4), none⟩,
        ⟨(.l 38), .len .str (.l 37), none⟩,
        ⟨(.p 9), .mv (.l 38), none⟩])
      (.seq (.seq (.region [⟨(.l 39), .mv (.p 0), none⟩,
          ⟨(.l 40), .nilck (.l 39), none⟩,
          ⟨(.l 41), .faddr 0 (.l 40), none⟩,
          ⟨(.l 42), .load 1 false (.l 41), none⟩,
          ⟨(.l 43), .len .sl (.l 42), none⟩,
          ⟨(.l 44), .bin .gtr (.l 43) (.c (.int .i64 (0))), none⟩])
        (.cond (.l 44)
         (.region [⟨(.l 45), .mv (.p 0), none⟩,
           ⟨(.l 46), .nilck (.l 45), none⟩,
           ⟨(.l 47), .faddr 0 (.l 46), none⟩,
           ⟨(.l 48), .load 1 false (.l 47), none⟩,
           ⟨(.l 49), .iaddr none 1 (.l 48) (.c (.int .i64 (0))), none⟩,
           ⟨(.l 50), .load 1 false (.l 49), none⟩,
           ⟨(.l 51), .len .str (.l 50), none⟩,
           ⟨(.p 9), .mv (.l 51), none⟩])
         (.skip)))
       (.seq (.seq (.draw [(⟨(.l 52), .mv (.p 8), none⟩, []),
           (⟨(.l 53), .un .not (.l 52), none⟩, []),
           (⟨(.l 54), .call (.c (.fn (.func 91) [] [])) [(.l 53), (.c (.int .i64 (25)))], none⟩, []),
           (⟨(.l 55), .mv (.p 6), none⟩, [0, 1, 2]),
           (⟨(.l 56), .bin .eql (.l 55) (.c (.int .i64 (0))), none⟩, [0, 1, 2]),
           (⟨(.l 57), .call (.c (.fn (.func 91) [] [])) [(.l 56), (.c (.int .i64 (3)))], none⟩, []),
           (⟨(.l 58), .mv (.p 0), none⟩, [0, 1, 2, 3, 4, 5]),
           (⟨(.l 59), .nilck (.l 58), none⟩, [0, 1, 2, 3, 4, 5]),
           (⟨(.l 60), .faddr 0 (.l 59), none⟩, [0, 1, 2, 3, 4, 5]),
           (⟨(.l 61), .load 1 false (.l 60), none⟩, [0, 1, 2, 3, 4, 5]),
           (⟨(.l 62), .len .sl (.l 61), none⟩, [0, 1, 2, 3, 4, 5]),
           (⟨(.l 63), .mv (.p 6), none⟩, [0, 1, 2, 3, 4, 5, 6, 7, 8, 9, 10]),
           (⟨(.l 64), .bin .add (.l 62) (.l 63), none⟩, [0, 1, 2, 3, 4, 5]),
           (⟨(.l 65), .bin .gtr (.l 64) (.c (.int .i64 (4096))), none⟩, [0, 1, 2, 3, 4, 5]),
           (⟨(.l 66), .call (.c (.fn (.func 91) [] [])) [(.l 65), (.c (.int .i64 (5)))], none⟩, []),
           (⟨(.l 67), .mv (.p 4), none⟩, [0, 1, 2, 3, 4, 5, 6, 7, 8, 9, 10, 11, 12, 13, 14]),
           (⟨(.l 68), .len .str (.l 67), none⟩, [0, 1, 2, 3, 4, 5, 6, 7, 8, 9, 10, 11, 12, 13, 14]),
           (⟨(.l 69), .mv (.p 9), none⟩, [0, 1, 2, 3, 4, 5, 6, 7, 8, 9, 10, 11, 12, 13, 14, 15, 16]),
           (⟨(.l 70), .bin .neq (.l 68) (.l 69), none⟩, [0, 1, 2, 3, 4, 5, 6, 7, 8, 9, 10, 11, 12, 13, 14]),
           (⟨(.l 71), .call (.c (.fn (.func 91) [] [])) [(.l 70), (.c (.int .i64 (2)))], none⟩, []),
           (⟨(.l 72), .mv (.p 4), none⟩, [0, 1, 2, 3, 4, 5, 6, 7, 8, 9, 10, 11, 12, 13, 14, 15, 16, 17, 18, 19]),
           (⟨(.l 73), .call (.c (.fn (.func 153) [] [])) [(.l 72)], none⟩, []),
           (⟨(.l 74), .un .not (.l 73), none⟩, []),
           (⟨(.l 75), .call (.c (.fn (.func 91) [] [])) [(.l 74), (.c (.int .i64 (1)))], none⟩, []),
           (⟨(.l 76), .bslice 28 5 1 [.int .i64 (0)] [(0, 1, (.l 54)), (1, 1, (.l 57)), (2, 1, (.l 66)), (3, 1, (.l 71)), (4, 1, (.l 75))], none⟩, []),
           (⟨(.l 77), .call (.c (.fn (.func 90) [] [])) [(.l 76)], none⟩, []),
           (⟨(.p 10), .mv (.l 77), none⟩, [])])
         (.seq (.region [⟨(.l 78), .mv (.p 10), none⟩,
            ⟨(.l 79), .bin .neq (.l 78) (.c (.int .i64 (0))), none⟩])
          (.cond (.l 79)
           (.seq (.region [⟨(.l 80), .mv (.p 10), none⟩,
              ⟨(.p 2), .mv (.l 80), none⟩])
            (.ret))
           (.skip))))
        (.seq (.draw [(⟨(.l 81), .mv (.p 0), none⟩, []),
           (⟨(.l 82), .mv (.p 0), none⟩, [0]),
           (⟨(.l 83), .nilck (.l 82), none⟩, [0]),
           (⟨(.l 84), .faddr 0 (.l 83), none⟩, [0]),
           (⟨(.l 85), .load 1 false (.l 84), none⟩, [0]),
           (⟨(.l 86), .mv (.p 4), none⟩, [0, 1, 2, 3, 4]),
           (⟨(.l 87), .bslice 9 1 1 [.str []] [(0, 1, (.l 86))], none⟩, [0, 1, 2, 3, 4]),
           (⟨(.l 88), .mv (.p 6), none⟩, [0, 1, 2, 3, 4, 5, 6]),
           (⟨(.l 89), .call (.c (.fn (.func 150) [] [])) [(.l 87), (.l 88)], none⟩, [0, 1, 2, 3, 4]),
           (⟨(.l 90), .append 9 1 16 (.l 85) (.l 89), none⟩, [0]),
           (⟨(.l 91), .nilck (.l 81), none⟩, []),
           (⟨(.l 92), .faddr 0 (.l 91), none⟩, []),
           (⟨.no, .store 1 (.l 92) (.l 90), none⟩, [])])
         (.seq (.region [⟨(.p 2), .mv (.c (.int .i64 (0))), none⟩])
          (.ret)))))))))
theorem ft93 : FT 93 = some ⟨93, [0, 1, 4, 5, 6, 7, 8, 9, 10, 11, 12], [.var (.p 2)], b93⟩ := by kernel_rfl

/-- stadion/stadionref01.FromInt -/
def b49 : ICode :=
 .seq (.region [⟨(.p 1), .mv (.c (.str [])), none⟩])
  (.seq (.region [⟨(.l 3), .mv (.p 0), none⟩,
     ⟨(.l 4), .call (.c (.fn (.func 130) [] [])) [(.l 3)], none⟩,
     ⟨(.l 5), .call (.c (.fn (.func 129) [] [])) [(.l 4)], none⟩,
     ⟨(.p 1), .mv (.l 5), none⟩])
   (.ret))
theorem ft49 : FT 49 = some ⟨6, [0, 2], [.var (.p 1)], b49⟩ := by kernel_rfl

def b130_0 : ICode :=
 .seq (.seq (.region [⟨(.l 8), .mv (.p 0), none⟩,
     ⟨(.l 9), .bin .neq (.l 8) (.c (.int .i64 (0))), none⟩])
   (.cond (.l 9)
    (.skip)
    (.exit 0)))
  (.block 1
   (.seq (.region [⟨(.l 10), .mv (.p 0), none⟩,
      ⟨(.l 11), .bin .rem (.l 10) (.c (.int .i64 (1000000000))), none⟩,
      ⟨(.p 4), .mv (.l 11), none⟩])
    (.seq (.seq (.region [⟨(.l 12), .mv (.p 4), none⟩,
        ⟨(.l 13), .bin .lss (.l 12) (.c (.int .i64 (0))), none⟩])
      (.cond (.l 13)
       (.region [⟨(.l 14), .mv (.p 4), none⟩,
         ⟨(.l 15), .bin .sub (.c (.int .i64 (0))) (.l 14), none⟩,
         ⟨(.p 4), .mv (.l 15), none⟩])
       (.skip)))
     (.seq (.region [⟨(.l 16), .mv (.p 2), none⟩,
        ⟨(.l 17), .mv (.p 4), none⟩,
        ⟨(.l 18), .bslice 3 1 1 [.int .i64 (0)] [(0, 1, (.l 17))], none⟩,
        ⟨(.l 19), .append 3 1 8 (.l 16) (.l 18), none⟩,
        ⟨(.p 2), .mv (.l 19), none⟩])
      (.region [⟨(.l 20), .mv (.p 0), none⟩,
        ⟨(.l 21), .bin .quo (.l 20) (.c (.int .i64 (1000000000))), none⟩,
        ⟨(.p 0), .mv (.l 21), none⟩])))))
/-- stadion/stadionref01.whole -/
def b130 : ICode :=
 .seq (.region [⟨(.p 1), .alloc 200 [.bool false, .nilsl], none⟩])
  (.seq (.region [⟨(.p 2), .mv (.c (.nilsl)), none⟩])
   (.seq (.region [⟨(.l 6), .mv (.p 0), none⟩,
      ⟨(.l 7), .bin .lss (.l 6) (.c (.int .i64 (0))), none⟩,
      ⟨(.p 3), .mv (.l 7), none⟩])
    (.seq (.block 0
      (.loop b130_0))
     (.seq (.region [⟨(.l 22), .mv (.p 3), none⟩,
        ⟨(.l 23), .mv (.p 2), none⟩,
        ⟨(.l 24), .call (.c (.fn (.func 183) [] [])) [(.l 22), (.l 23)], none⟩,
        ⟨.no, .store 2 (.p 1) (.l 24), none⟩])
      (.ret)))))
theorem ft130 : FT 130 = some ⟨25, [0, 2, 3, 4, 5], [.cell 2 true (.p 1)], b130⟩ := by kernel_rfl

def b129_0 : ICode :=
 .seq (.seq (.region [⟨(.l 22), .mv (.p 4), none⟩,
     ⟨(.l 23), .bin .geq (.l 22) (.c (.int .i64 (0))), none⟩])
   (.cond (.l 23)
    (.skip)
    (.exit 0)))
  (.seq (.block 1
    (.region [⟨(.l 26), .mv (.p 3), none⟩,
      ⟨(.l 27), .faddr 1 (.p 1), none⟩,
      ⟨(.l 28), .load 1 false (.l 27), none⟩,
      ⟨(.l 29), .mv (.p 4), none⟩,
      ⟨(.l 30), .iaddr none 1 (.l 28) (.l 29), none⟩,
      ⟨(.l 31), .load 1 false (.l 30), none⟩,
      ⟨(.l 32), .call (.c (.fn (.func 182) [] [])) [(.l 31), (.c (.int .i64 (9)))], none⟩,
      ⟨(.l 33), .bin .add (.l 26) (.l 32), none⟩,
      ⟨(.p 3), .mv (.l 33), none⟩]))
   (.region [⟨(.l 24), .mv (.p 4), none⟩,
     ⟨(.l 25), .bin .sub (.l 24) (.c (.int .i64 (1))), none⟩,
     ⟨(.p 4), .mv (.l 25), none⟩]))
/-- stadion/stadionref01.text -/
def b129 : ICode :=
 .seq (.region [⟨(.p 1), .box 200 2 (.p 0), none⟩,
    ⟨(.p 2), .mv (.c (.str [])), none⟩])
  (.seq (.seq (.region [⟨(.l 5), .faddr 1 (.p 1), none⟩,
      ⟨(.l 6), .load 1 false (.l 5), none⟩,
      ⟨(.l 7), .len .sl (.l 6), none⟩,
      ⟨(.l 8), .bin .eql (.l 7) (.c (.int .i64 (0))), none⟩])
    (.cond (.l 8)
     (.seq (.region [⟨(.p 2), .mv (.c (.str [48])), none⟩])
      (.ret))
     (.skip)))
   (.seq (.region [⟨(.l 9), .faddr 1 (.p 1), none⟩,
      ⟨(.l 10), .load 1 false (.l 9), none⟩,
      ⟨(.l 11), .faddr 1 (.p 1), none⟩,
      ⟨(.l 12), .load 1 false (.l 11), none⟩,
      ⟨(.l 13), .len .sl (.l 12), none⟩,
      ⟨(.l 14), .bin .sub (.l 13) (.c (.int .i64 (1))), none⟩,
      ⟨(.l 15), .iaddr none 1 (.l 10) (.l 14), none⟩,
      ⟨(.l 16), .load 1 false (.l 15), none⟩,
      ⟨(.l 17), .call (.c (.fn (.func 182) [] [])) [(.l 16), (.c (.int .i64 (1)))], none⟩,
      ⟨(.p 3), .mv (.l 17), none⟩])
    (.seq (.seq (.region [⟨(.l 18), .faddr 1 (.p 1), none⟩,
        ⟨(.l 19), .load 1 false (.l 18), none⟩,
        ⟨(.l 20), .len .sl (.l 19), none⟩,
        ⟨(.l 21), .bin .sub (.l 20) (.c (.int .i64 (2))), none⟩,
        ⟨(.p 4), .mv (.l 21), none⟩])
      (.block 0
       (.loop b129_0)))
     (.seq (.seq (.region [⟨(.l 34), .faddr 0 (.p 1), none⟩,
         ⟨(.l 35), .load 1 false (.l 34), none⟩])
       (.cond (.l 35)
        (.seq (.region [⟨(.l 36), .mv (.p 3), none⟩,
           ⟨(.l 37), .bin .add (.c (.str [45])) (.l 36), none⟩,
           ⟨(.p 2), .mv (.l 37), none⟩])
         (.ret))
        (.skip)))
      (.seq (.region [⟨(.l 38), .mv (.p 3), none⟩,
         ⟨(.p 2), .mv (.l 38), none⟩])
       (.ret))))))
theorem ft129 : FT 129 = some ⟨39, [0, 1, 2, 3, 4], [.var (.p 2)], b129⟩ := by kernel_rfl

/-- stadion/stadionref01.signed -/
def b183 : ICode :=
 .seq (.region [⟨(.p 2), .alloc 200 [.bool false, .nilsl], none⟩])
  (.seq (.region [⟨(.l 5), .mv (.p 1), none⟩,
     ⟨(.l 6), .call (.c (.fn (.func 236) [] [])) [(.l 5)], none⟩,
     ⟨(.p 1), .mv (.l 6), none⟩])
   (.seq (.region [⟨(.l 7), .mv (.p 0), none⟩,
      ⟨(.l 8), .mv (.l 7), none⟩,
      ⟨(.l 9), .mv (.p 1), some ((.l 8), true)⟩,
      ⟨(.l 10), .len .sl (.l 9), some ((.l 8), true)⟩,
      ⟨(.l 11), .bin .gtr (.l 10) (.c (.int .i64 (0))), some ((.l 8), true)⟩,
      ⟨(.l 12), .pick (.l 8) (.l 11) (.c (.bool false)), none⟩,
      ⟨(.l 13), .mv (.p 1), none⟩,
      ⟨(.l 14), .build [.bool false, .nilsl] [(0, 1, (.l 12)), (1, 1, (.l 13))], none⟩,
      ⟨.no, .store 2 (.p 2) (.l 14), none⟩])
    (.ret)))
theorem ft183 : FT 183 = some ⟨15, [0, 1, 4], [.cell 2 true (.p 2)], b183⟩ := by kernel_rfl

def b236_0 : ICode :=
 .seq (.seq (.region [⟨(.l 3), .mv (.p 0), none⟩,
     ⟨(.l 4), .len .sl (.l 3), none⟩,
     ⟨(.l 5), .bin .gtr (.l 4) (.c (.int .i64 (0))), none⟩,
     ⟨(.l 6), .mv (.l 5), none⟩,
     ⟨(.l 7), .mv (.p 0), some ((.l 6), true)⟩,
     ⟨(.l 8), .mv (.p 0), some ((.l 6), true)⟩,
     ⟨(.l 9), .len .sl (.l 8), some ((.l 6), true)⟩,
     ⟨(.l 10), .bin .sub (.l 9) (.c (.int .i64 (1))), some ((.l 6), true)⟩,
     ⟨(.l 11), .iaddr none 1 (.l 7) (.l 10), some ((.l 6), true)⟩,
     ⟨(.l 12), .load 1 false (.l 11), some ((.l 6), true)⟩,
     ⟨(.l 13), .bin .eql (.l 12) (.c (.int .i64 (0))), some ((.l 6), true)⟩,
     ⟨(.l 14), .pick (.l 6) (.l 13) (.c (.bool false)), none⟩])
   (.cond (.l 14)
    (.skip)
    (.exit 0)))
  (.block 1
   (.region [⟨(.l 15), .mv (.p 0), none⟩,
     ⟨(.l 16), .mv (.p 0), none⟩,
     ⟨(.l 17), .len .sl (.l 16), none⟩,
     ⟨(.l 18), .bin .sub (.l 17) (.c (.int .i64 (1))), none⟩,
     ⟨(.l 19), .slice .sl 1 (.l 15) none (some (.l 18)) none, none⟩,
     ⟨(.p 0), .mv (.l 19), none⟩]))
/-- stadion/stadionref01.trim -/
def b236 : ICode :=
 .seq (.region [⟨(.p 1), .mv (.c (.nilsl)), none⟩])
  (.seq (.block 0
    (.loop b236_0))
   (.seq (.region [⟨(.l 20), .mv (.p 0), none⟩,
      ⟨(.p 1), .mv (.l 20), none⟩])
    (.ret)))
theorem ft236 : FT 236 = some ⟨21, [0, 2], [.var (.p 1)], b236⟩ := by kernel_rfl

def b182_0 : ICode :=
 .seq (.seq (.region [⟨(.l 6), .mv (.p 0), none⟩,
     ⟨(.l 7), .bin .gtr (.l 6) (.c (.int .i64 (0))), none⟩,
     ⟨(.l 8), .mv (.l 7), none⟩,
     ⟨(.l 9), .mv (.p 3), some ((.l 8), false)⟩,
     ⟨(.l 10), .len .str (.l 9), some ((.l 8), false)⟩,
     ⟨(.l 11), .mv (.p 1), some ((.l 8), false)⟩,
     ⟨(.l 12), .bin .lss (.l 10) (.l 11), some ((.l 8), false)⟩,
     ⟨(.l 13), .pick (.l 8) (.c (.bool true)) (.l 12), none⟩])
   (.cond (.l 13)
    (.skip)
    (.exit 0)))
  (.block 1
   (.seq (.region [⟨(.l 14), .mv (.p 0), none⟩,
      ⟨(.l 15), .bin .rem (.l 14) (.c (.int .i64 (10))), none⟩,
      ⟨(.l 16), .mv (.p 0), none⟩,
      ⟨(.l 17), .bin .rem (.l 16) (.c (.int .i64 (10))), none⟩,
      ⟨(.l 18), .bin .add (.l 17) (.c (.int .i64 (1))), none⟩,
      ⟨(.l 19), .slice .str 1 (.c (.str [48, 49, 50, 51, 52, 53, 54, 55, 56, 57])) (some (.l 15)) (some (.l 18)) none, none⟩,
      ⟨(.l 20), .mv (.p 3), none⟩,
      ⟨(.l 21), .bin .add (.l 19) (.l 20), none⟩,
      ⟨(.p 3), .mv (.l 21), none⟩])
    (.region [⟨(.l 22), .mv (.p 0), none⟩,
      ⟨(.l 23), .bin .quo (.l 22) (.c (.int .i64 (10))), none⟩,
      ⟨(.p 0), .mv (.l 23), none⟩])))
/-- stadion/stadionref01.decimal -/
def b182 : ICode :=
 .seq (.region [⟨(.p 2), .mv (.c (.str [])), none⟩])
  (.seq (.region [⟨(.p 3), .mv (.c (.str [])), none⟩])
   (.seq (.block 0
     (.loop b182_0))
    (.seq (.region [⟨(.l 24), .mv (.p 3), none⟩,
       ⟨(.p 2), .mv (.l 24), none⟩])
     (.ret))))
theorem ft182 : FT 182 = some ⟨25, [0, 1, 4, 5], [.var (.p 2)], b182⟩ := by kernel_rfl


end Go.Ab.Ch5


/-
  Own work: packed images: numbers as decimal texts, by the reference.
-/
namespace Go.Ab.Ch5
variable {M : Mach} {cap : Option Nat}

def dig (d : Int) : UInt8 := UInt8.ofNat (48 + d.toNat)
theorem dig_cut {d : Int} (h : 0 ≤ d ∧ d < 10) : ((([48, 49, 50, 51, 52, 53, 54, 55, 56, 57] : List UInt8).drop d.toNat).take ((d + 1).toNat - d.toNat)) = [dig d] := by
  have : d = 0 ∨ d = 1 ∨ d = 2 ∨ d = 3 ∨ d = 4 ∨ d = 5 ∨ d = 6 ∨ d = 7 ∨ d = 8 ∨ d = 9 := by omega
  rcases this with rfl | rfl | rfl | rfl | rfl | rfl | rfl | rfl | rfl | rfl <;> rfl
/-- A digit's text, cut out of all ten. -/
theorem WO.dig {t : Nat} {x y : IOpd} {l : List IOper} {pe : List AV} {lo : List (Nat × AV)} {hp : Heap} {df wr : List Nat} {k k' : IntKind} {d : Int} {Q : StW → Prop} (hx : (St.mk pe lo hp df).opd x = some (.int k d)) (hy : (St.mk pe lo hp df).opd y = some (.int k' (d + 1))) (hd : 0 ≤ d ∧ d < 10)
    (h : WO M l ⟨⟨pe, (t, .str [dig d]) :: lo, hp, df⟩, wr⟩ Q) : WO M (⟨.l t, .slice .str 1 (.c (.str [48, 49, 50, 51, 52, 53, 54, 55, 56, 57])) (some x) (some y) none, none⟩ :: l) ⟨⟨pe, lo, hp, df⟩, wr⟩ Q := by
  refine WO.pl ?_ rfl h
  have e0 : (St.mk pe lo hp df).opd (.c (.str [48, 49, 50, 51, 52, 53, 54, 55, 56, 57])) = some (.str [48, 49, 50, 51, 52, 53, 54, 55, 56, 57]) := rfl
  simp only [pureA, e0, St.oopd, hx, hy, Option.map_some, sliceA, boundA]
  have h1 : 0 ≤ d + 1 ∧ d + 1 ≤ (([48, 49, 50, 51, 52, 53, 54, 55, 56, 57] : List UInt8).length : Nat) := ⟨by omega, by show d + 1 ≤ 10; omega⟩
  have h2 : 0 ≤ d ∧ d ≤ ((d + 1).toNat : Nat) := ⟨by omega, by omega⟩
  simp only [if_pos h1, if_pos h2, dig_cut hd]
  rfl

/-- The digits of a number in front of others, at least so many. -/
def decF (least : Int) : Nat → Nat → Str → Str
  | 0, _, s => s
  | k + 1, n, s => if 0 < n ∨ (s.length : Int) < least then decF least k (n / 10) (dig ((n : Int) % 10) :: s) else s
theorem loop182 (least : Int) (hl : 0 ≤ least ∧ least ≤ 9) {Q : Ex → StW → Prop} : ∀ (k n : Nat) (s : Str) (lo : List (Nat × AV)) (hp : Heap) (wr : List Nat) (a2 : AV), n < 10 ^ k → least ≤ s.length + k → s.length + k ≤ 100 → n ≤ 1000000000000 →
    (∀ lo, Q (.exit 0) ⟨⟨[.int .i64 0, .int .i64 least, a2, .str (decF least (k + 1) n s)], lo, hp, []⟩, wr⟩) →
    W M (.loop b182_0) ⟨⟨[.int .i64 n, .int .i64 least, a2, .str s], lo, hp, []⟩, wr⟩ Q := by
  intro k
  induction k with
  | zero =>
    intro n s lo hp wr a2 hn h1 h2 h3 hQ
    obtain rfl : n = 0 := by simpa using hn
    have hs : (s.length : Int) < 1000 := by omega
    refine W.loop ?_
    unfold b182_0
    have hQ' := hQ
    simp only [decF] at hQ'
    rw [if_neg (by omega)] at hQ'
    repeat' first | apply W.seq | apply SQn | apply W.region | apply WO.nil | apply W.exit | apply SQe | apply LQe | (apply W.condF; exact rfl) | (apply WO.gF; exact rfl) | (apply WO.lss; exact rfl; exact rfl; all_goals first | (intro _; exfalso; omega) | intro _) | (apply WO.gtr; exact rfl; exact rfl; all_goals first | (intro _; exfalso; omega) | intro _) | (apply WO.pkF; exact rfl; exact rfl) | (apply WO.pl; exact rfl; exact rfl)
    exact hQ' _
  | succ k ih =>
    intro n s lo hp wr a2 hn h1 h2 h3 hQ
    have hn' : n / 10 < 10 ^ k := Nat.div_lt_of_lt_mul (by rw [Nat.pow_succ, Nat.mul_comm] at hn; exact hn)
    have hs : (s.length : Int) < 1000 := by omega
    by_cases h : 0 < n ∨ (s.length : Int) < least
    · have e : decF least (k + 1 + 1) n s = decF least (k + 1) (n / 10) (dig ((n : Int) % 10) :: s) := by rw [decF, if_pos h]
      rw [e] at hQ
      have hd : 0 ≤ (n : Int) % 10 ∧ (n : Int) % 10 < 10 := ⟨Int.emod_nonneg _ (by decide), Int.emod_lt_of_pos _ (by decide)⟩
      have go : ∀ lo, LQ M b182_0 Q .normal ⟨⟨[.int .i64 ((n : Int) / 10), .int .i64 least, a2, .str (dig ((n : Int) % 10) :: s)], lo, hp, []⟩, wr⟩ := fun lo => by
        have := ih (n / 10) (dig ((n : Int) % 10) :: s) lo hp wr a2 hn' (by simp only [List.length_cons]; omega) (by simp only [List.length_cons]; omega) (by omega) hQ
        rw [Int.natCast_ediv] at this
        exact LQn this
      refine W.loop ?_
      unfold b182_0
      repeat' first | (apply WO.dig; exact rfl; exact rfl; exact hd) | apply W.seq | apply SQn | apply W.region | apply WO.nil | apply W.block | apply W.skip | apply BQn | (apply W.condT; exact rfl) | (apply WO.gF; exact rfl) | (apply WO.sF; exact rfl) | (apply WO.lss; exact rfl; exact rfl; all_goals first | (intro _; exfalso; omega) | intro _) | (apply WO.gtr; exact rfl; exact rfl; all_goals first | (intro _; exfalso; omega) | intro _) | (apply WO.pkT; exact rfl; exact rfl) | (apply WO.pkF; exact rfl; exact rfl) | (apply WO.add; exact rfl; exact rfl; omega) | (apply WO.cat; exact rfl; exact rfl; first | omega | (simp only [List.length_append, List.length_cons, List.length_nil]; omega) | (simp; omega)) | (apply WO.remp; exact rfl; exact rfl; omega; intro _ _) | (apply WO.quop; exact rfl; exact rfl; omega; omega; intro _ _) | (apply WO.pl; exact rfl; exact rfl) | (apply WO.pp; exact rfl; exact rfl)
      all_goals exact go _
    · have e : decF least (k + 1 + 1) n s = s := by rw [decF, if_neg h]
      rw [e] at hQ
      obtain rfl : n = 0 := by omega
      refine W.loop ?_
      unfold b182_0
      repeat' first | apply W.seq | apply SQn | apply W.region | apply WO.nil | apply W.exit | apply SQe | apply LQe | (apply W.condF; exact rfl) | (apply WO.gF; exact rfl) | (apply WO.lss; exact rfl; exact rfl; all_goals first | (intro _; exfalso; omega) | intro _) | (apply WO.gtr; exact rfl; exact rfl; all_goals first | (intro _; exfalso; omega) | intro _) | (apply WO.pkF; exact rfl; exact rfl) | (apply WO.pl; exact rfl; exact rfl)
      exact hQ _
theorem w182 (hft : M.FT = FT) (n : Nat) (least : Int) (hn : n ≤ 1000000000000) (hl : 0 ≤ least ∧ least ≤ 9) : Run M 182 [.int .i64 n, .int .i64 least] [] ⟨.str (decF least 20 n []), [], []⟩ := by
  refine run_of_W (by rw [hft]; exact ft182) (by simp) ?_
  unfold b182
  simp only [List.map_cons, List.map_nil, List.getElem?_cons_zero, List.getElem?_cons_succ, List.getElem?_nil, Option.getD_some, Option.getD_none]
  repeat' first | apply W.seq | apply SQn | apply W.region | apply WO.nil | apply W.block | (apply WO.pp; exact rfl; exact rfl)
  refine loop182 least hl 19 n [] _ _ _ _ (by omega) (by simp; omega) (by simp) hn (fun lo => ?_)
  repeat' first | apply W.seq | apply SQn | apply W.region | apply WO.nil | apply W.ret | apply BQe | (apply WO.pl; exact rfl; exact rfl) | (apply WO.pp; exact rfl; exact rfl)
  exact ⟨.inr rfl, rfl, _, rfl, rfl, rfl⟩

/-! A machine integer as a text, by the reference. -/
theorem loop236 (x : Int) (hx : x ≠ 0) (b : Nat) (hp : Heap) (hb : hp.at b = some (.cells (ints [x]) 3)) {Q : Ex → StW → Prop} {a1 : AV} {lo : List (Nat × AV)} {wr : List Nat} {c : Option Nat} (hQ : ∀ lo, Q (.exit 0) ⟨⟨[.sl b 0 1 1 c, a1], lo, hp, []⟩, wr⟩) :
    W M (.loop b236_0) ⟨⟨[.sl b 0 1 1 c, a1], lo, hp, []⟩, wr⟩ Q := by
  have hl : [x].length = 1 := rfl
  refine W.loop ?_
  unfold b236_0
  repeat' first | apply W.seq | apply SQn | apply W.region | apply WO.nil | apply W.block | apply W.exit | apply W.skip | apply SQe | apply BQn | apply LQe | (apply W.condT; exact rfl) | (apply W.condF; exact rfl) | (apply WO.gT; exact rfl) | (apply WO.gtr; exact rfl; exact rfl; all_goals first | (intro _; exfalso; omega) | intro _) | (apply WO.eql; exact rfl; exact rfl; all_goals first | (intro _; exfalso; omega) | intro _) | (apply WO.pkT; exact rfl; exact rfl) | (apply WO.sub; exact rfl; exact rfl; omega) | (apply WO.ias; exact rfl; exact rfl; omega) | (apply WO.lsa; exact rfl; (first | exact rfl | assumption | exact at_new | (apply at_old; assumption) | (apply at_put; first | assumption | (simp only [put_length]; assumption))); exact fun _ => rfl; (first | omega | (simp only [List.length_set]; omega) | (simp; omega)); decide; exact rfl; case ia => infer_instance) | (apply WO.pl; exact rfl; exact rfl) | (apply WO.pp; exact rfl; exact rfl)
  all_goals first | exact hQ _ | (exfalso; exact hx (by assumption))
theorem w236 (hft : M.FT = FT) (x : Int) (hx : x ≠ 0) (b : Nat) (hp : Heap) (hb : hp.at b = some (.cells (ints [x]) 3)) (c : Option Nat) : Run M 236 [.sl b 0 1 1 c] hp ⟨.sl b 0 1 1 c, hp, []⟩ := by
  refine run_same (by rw [hft]; exact ft236) (by simp) ?_
  unfold b236
  simp only [List.map_cons, List.map_nil, List.getElem?_cons_zero, List.getElem?_cons_succ, List.getElem?_nil, Option.getD_some, Option.getD_none]
  repeat' first | apply W.seq | apply SQn | apply W.region | apply WO.nil | apply W.block | (apply WO.pp; exact rfl; exact rfl)
  refine loop236 x hx b hp hb (fun lo => ?_)
  repeat' first | apply W.seq | apply SQn | apply W.region | apply WO.nil | apply W.ret | apply BQe | (apply WO.pl; exact rfl; exact rfl) | (apply WO.pp; exact rfl; exact rfl)
  exact ⟨.inr rfl, rfl, rfl, rfl, _, rfl, rfl⟩
theorem w183 (hft : M.FT = FT) (n236 : ∀ ars h, M.ext 236 ars h = none) (x : Int) (hx : x ≠ 0) (b : Nat) (hp : Heap) (hb : hp.at b = some (.cells (ints [x]) 3)) (c : Option Nat) :
    Run M 183 [.bool false, .sl b 0 1 1 c] hp ⟨.agg [.bool false, .sl b 0 1 1 c], hp, []⟩ := by
  have q := CT.run (fi := []) (ca := []) (ars := [.sl b 0 1 1 c]) (n236 _ _) (w236 hft x hx b (hp ++ [some (.cells [.bool false, .nilsl] 200)]) (at_old hb) c)
  have hlt := at_lt hb
  refine run_dropT (by rw [hft]; exact ft183) (by simp) (by show max 0 (max (b + 1) 0) ≤ _; omega) ?_
  unfold b183
  simp only [List.map_cons, List.map_nil, List.getElem?_cons_zero, List.getElem?_cons_succ, List.getElem?_nil, Option.getD_some, Option.getD_none]
  repeat' first | (apply WO.stw; exact rfl; exact rfl; exact at_new; exact ⟨rfl, rfl, rfl⟩) | apply W.seq | apply SQn | apply W.region | apply WO.nil | apply W.ret | (apply WO.sT; exact rfl) | (apply WO.pkF; exact rfl; exact rfl) | (apply WO.ct; exact rfl; exact rfl; first | exact q) | (apply WO.hpv; exact rfl; exact rfl; exact rfl) | (apply WO.pl; exact rfl; exact rfl) | (apply WO.pp; exact rfl; exact rfl)
  all_goals refine ⟨.inr rfl, rfl, ⟨_, put_end rfl _ _⟩, by simp, [.agg [.bool false, .sl b 0 1 1 c]], ?_, rfl⟩
  all_goals (simp [resultsA, St.opd, put_end rfl, readAt, at_new]; rfl)
theorem w130 (hft : M.FT = FT) (n236 : ∀ ars h, M.ext 236 ars h = none) (n183 : ∀ ars h, M.ext 183 ars h = none) (n : Int) (hn : 0 < n ∧ n < 1000000000) :
    Run M 130 [.int .i64 n] [] ⟨.agg [.bool false, .sl 2 0 1 1 none], [some (.cells [.bool false, .sl 2 0 1 1 none] 200), some (.cells [.int .i64 n] 3), some (.cells [.int .i64 n] 3)], []⟩ := by
  have q := CT.run (fi := []) (ca := []) (ars := [.bool false, .sl 2 0 1 1 none]) (n183 _ _) (w183 hft n236 n (by omega) 2 [some (.cells [.bool false, .nilsl] 200), some (.cells [.int .i64 n] 3), some (.cells [.int .i64 n] 3)] rfl none)
  have e1 : n % 1000000000 = n := by omega
  have e2 : n / 1000000000 = 0 := by omega
  refine run_of_W (by rw [hft]; exact ft130) (by simp) ?_
  unfold b130
  simp only [List.map_cons, List.map_nil, List.getElem?_cons_zero, List.getElem?_cons_succ, List.getElem?_nil, Option.getD_some, Option.getD_none]
  repeat' first | apply W.seq | apply SQn | apply W.region | apply WO.nil | apply W.block | (apply WO.lss; exact rfl; exact rfl; all_goals first | (intro _; exfalso; omega) | intro _) | (apply WO.hpv; exact rfl; exact rfl; exact rfl) | (apply WO.pl; exact rfl; exact rfl) | (apply WO.pp; exact rfl; exact rfl)
  refine W.loop ?_
  unfold b130_0
  repeat' first | (apply WO.apn; exact rfl; exact rfl; exact rfl; exact ⟨rfl, by decide, rfl⟩; exact ⟨by decide, by decide⟩) | apply W.seq | apply SQn | apply W.region | apply WO.nil | apply W.block | apply W.skip | apply BQn | (apply W.condT; exact rfl) | (apply W.condF; exact rfl) | (apply WO.lss; exact rfl; exact rfl; all_goals first | (intro _; exfalso; omega) | intro _) | (apply WO.neq; exact rfl; exact rfl; all_goals first | (intro _; exfalso; omega) | intro _) | (apply WO.remp; exact rfl; exact rfl; omega; intro _ _) | (apply WO.quop; exact rfl; exact rfl; omega; omega; intro _ _) | (apply WO.hlv; exact rfl; exact rfl; exact rfl) | (apply WO.pl; exact rfl; exact rfl) | (apply WO.pp; exact rfl; exact rfl)
  all_goals first | (exfalso; omega) | skip
  refine LQn ?_
  rw [e1, e2]
  refine W.loop ?_
  repeat' first | apply W.seq | apply SQn | apply W.region | apply WO.nil | apply W.exit | apply SQe | apply BQe | apply LQe | (apply W.condF; exact rfl) | (apply WO.neq; exact rfl; exact rfl; all_goals first | (intro _; exfalso; omega) | intro _) | (apply WO.pl; exact rfl; exact rfl)
  all_goals first | (exfalso; omega) | skip
  repeat' first | apply SQn | apply WO.nil | apply W.ret | (apply WO.ct; exact rfl; exact rfl; first | exact q) | (apply WO.hnv; exact rfl; exact rfl; exact rfl)
  all_goals exact ⟨.inr rfl, rfl, _, rfl, rfl, rfl⟩
theorem w129 (hft : M.FT = FT) (c182 : ∀ n h, (n : Nat) ≤ 1000000000 → M.ext 182 [.int .i64 n, .int .i64 1] h = some ⟨.str (decF 1 20 n []), h, []⟩) (n : Nat) (hn : n < 1000000000) :
    Run M 129 [.agg [.bool false, .vs (ints [(n : Int)]) 1 cap]] [] ⟨.str (decF 1 20 n []), [], []⟩ := by
  have q := fun h => c182 n h (by omega)
  refine run_of_W (by rw [hft]; exact ft129) (by simp) ?_
  unfold b129
  simp only [List.map_cons, List.map_nil, List.getElem?_cons_zero, List.getElem?_cons_succ, List.getElem?_nil, Option.getD_some, Option.getD_none]
  repeat' first | (apply W.loop; unfold b129_0) | apply W.seq | apply SQn | apply W.region | apply WO.nil | apply W.block | apply W.ret | apply W.exit | apply W.skip | apply SQe | apply BQe | apply LQe | (apply W.condF; exact rfl) | (apply WO.geq; exact rfl; exact rfl; all_goals first | (intro _; exfalso; omega) | intro _) | (apply WO.eql; exact rfl; exact rfl; all_goals first | (intro _; exfalso; omega) | intro _) | (apply WO.sub; exact rfl; exact rfl; omega) | (apply WO.cll; exact rfl; exact rfl; first | exact q _) | (apply WO.iav; exact rfl; exact rfl; omega) | (apply WO.hlv; exact rfl; exact rfl; exact rfl) | (apply WO.hpv; exact rfl; exact rfl; exact rfl) | (apply WO.pl; exact rfl; exact rfl) | (apply WO.pp; exact rfl; exact rfl)
  all_goals exact ⟨.inr rfl, rfl, _, rfl, rfl, rfl⟩
theorem w49 (hft : M.FT = FT) (c130 : ∀ n h, 0 < n → n < 1000000000 → M.ext 130 [.int .i64 n] h = some ⟨.agg [.bool false, .sl h.length 0 1 1 none], h ++ [some (.cells [.int .i64 n] 3)], []⟩)
    (c129 : ∀ (n : Nat) b h, n < 1000000000 → h.at b = some (.cells [.int .i64 n] 3) → M.ext 129 [.agg [.bool false, .sl b 0 1 1 none]] h = some ⟨.str (decF 1 20 n []), h, []⟩) (n : Nat) (hn : 0 < n ∧ n < 1000000000) :
    Run M 49 [.int .i64 n] [] ⟨.str (decF 1 20 n []), [], []⟩ := by
  have q1 := c130 n [] (by omega) (by omega)
  have q2 := c129 n 0 ([] ++ [some (.cells [.int .i64 n] 3)]) hn.2 rfl
  refine run_of_W (by rw [hft]; exact ft49) (by simp) ?_
  unfold b49
  simp only [List.map_cons, List.map_nil, List.getElem?_cons_zero, List.getElem?_cons_succ, List.getElem?_nil, Option.getD_some, Option.getD_none]
  repeat' first | apply W.seq | apply SQn | apply W.region | apply WO.nil | apply W.ret | (apply WO.cll; exact rfl; exact rfl; first | exact q1 | exact q2) | (apply WO.pl; exact rfl; exact rfl) | (apply WO.pp; exact rfl; exact rfl)
  exact ⟨.inr rfl, rfl, _, rfl, rfl, rfl⟩
theorem w89 (hft : M.FT = FT) (c49 : ∀ (n : Nat) h, 0 < n → n < 1000000000 → M.ext 49 [.int .i64 n] h = some ⟨.str (decF 1 20 n []), h, []⟩) (n : Nat) (hn : 0 < n ∧ n < 1000000000) : Run M 89 [.int .i64 n] [] ⟨.str (decF 1 20 n []), [], []⟩ := by
  have q1 := fun h => c49 n h hn.1 hn.2
  refine run_of_W (by rw [hft]; exact ft89) (by simp) ?_
  unfold b89
  simp only [List.map_cons, List.map_nil, List.getElem?_cons_zero, List.getElem?_cons_succ, List.getElem?_nil, Option.getD_some, Option.getD_none]
  repeat' first | apply W.seq | apply SQn | apply W.region | apply WO.nil | apply W.ret | (apply WO.cll; exact rfl; exact rfl; first | exact q1 _) | (apply WO.pl; exact rfl; exact rfl) | (apply WO.pp; exact rfl; exact rfl)
  exact ⟨.inr rfl, rfl, _, rfl, rfl, rfl⟩
end Go.Ab.Ch5


/-
  Own work: packed images: the reference's text of an image.
-/
namespace Go.Ab.Ch5
variable {M : Mach} {cap : Option Nat}

def runLen (x : Str) : List Str → Nat
  | [] => 0
  | y :: l => if y = x then runLen x l + 1 else 0
def decD (n : Nat) : Str := decF 1 20 n []
def packN : Nat → List Str → Str
  | 0, _ => []
  | _ + 1, [] => []
  | k + 1, x :: l => ((decD (runLen x (x :: l)) ++ [32]) ++ x) ++ [10] ++ packN k ((x :: l).drop (runLen x (x :: l)))
theorem runLen_drop {x : Str} {l : List Str} {k : Nat} (h : k < l.length) : runLen x (l.drop k) = if l[k]! = x then runLen x (l.drop (k + 1)) + 1 else 0 := by
  rw [List.drop_eq_getElem_cons h, getElem!_pos l k h, runLen]
theorem runLen_le (x : Str) : ∀ l : List Str, runLen x l ≤ l.length
  | [] => Nat.le_refl _
  | y :: l => by
    rw [runLen]
    have := runLen_le x l
    split <;> simp <;> omega
theorem runLen_pos {l : List Str} {i : Nat} (h : i < l.length) : 0 < runLen l[i]! (l.drop i) := by
  rw [runLen_drop h, if_pos rfl]; omega
theorem packN_drop {l : List Str} {i k : Nat} (h : i < l.length) : packN (k + 1) (l.drop i) = ((decD (runLen l[i]! (l.drop i)) ++ [32]) ++ l[i]!) ++ [10] ++ packN k (l.drop (i + runLen l[i]! (l.drop i))) := by
  have e : l.drop i = l[i]! :: l.drop (i + 1) := by rw [List.drop_eq_getElem_cons h, getElem!_pos l i h]
  rw [← List.drop_drop]
  generalize hd : l.drop i = d at *
  subst e
  rw [packN]

theorem loop19a (l : List Str) (hl : l.length < 100000) (rows : Int) (i : Nat) (hi : i < l.length) (a0 a2 a3 : AV) {Q : Ex → StW → Prop} : ∀ (r k : Nat) (lo : List (Nat × AV)) (wr : List Nat), k + r = l.length →
    (∀ lo wr, Q (.exit 2) ⟨⟨[a0, .ptr 0 0, a2, a3, .int .i64 i, .int .i64 ((k + runLen l[i]! (l.drop k) : Nat) : Int)], lo, [some (.cells [.int .i64 rows, .vs (strs l) l.length cap] 25)], []⟩, wr⟩) →
    W M (.loop b19_0) ⟨⟨[a0, .ptr 0 0, a2, a3, .int .i64 i, .int .i64 k], lo, [some (.cells [.int .i64 rows, .vs (strs l) l.length cap] 25)], []⟩, wr⟩ Q := by
  intro r
  induction r with
  | zero =>
    intro k lo wr hk hQ
    obtain rfl : k = l.length := by omega
    have e : runLen l[i]! (l.drop l.length) = 0 := by simp [runLen]
    rw [e, Nat.add_zero] at hQ
    refine W.loop ?_
    unfold b19_0
    repeat' first | apply W.seq | apply SQn | apply WO.nil | apply W.exit | apply SQe | apply LQe | (apply W.drawro; exact rfl) | (apply W.condF; exact rfl) | (apply WO.sT; exact rfl) | (apply WO.lss; exact rfl; exact rfl; all_goals first | (intro _; exfalso; omega) | intro _) | (apply WO.pkF; exact rfl; exact rfl) | (apply WO.hlv; exact rfl; exact rfl; exact rfl) | (apply WO.pl; exact rfl; exact rfl)
    exact hQ _ _
  | succ r ih =>
    intro k lo wr hk hQ
    have e := runLen_drop (x := l[i]!) (l := l) (k := k) (by omega)
    have ek : ((k : Int)).toNat = k := by omega
    have ei : ((i : Int)).toNat = i := by omega
    by_cases h : l[k]! = l[i]!
    · rw [if_pos h] at e
      rw [e] at hQ
      refine W.loop ?_
      unfold b19_0
      repeat' first | apply W.seq | apply SQn | apply W.region | apply WO.nil | apply W.block | apply W.skip | apply BQn | (apply W.drawro; exact rfl) | (apply W.condT; exact rfl) | (apply WO.gT; exact rfl) | (apply WO.lss; exact rfl; exact rfl; all_goals first | (intro _; exfalso; omega) | intro _) | (apply WO.pkT; exact rfl; exact rfl) | (apply WO.add; exact rfl; exact rfl; omega) | (apply WO.iav; exact rfl; exact rfl; omega) | (apply WO.lda; exact rfl; exact fun _ => rfl; (first | omega | (simp only [List.length_set]; omega) | (simp; omega)); decide; exact rfl; case ia => infer_instance) | (apply WO.seql; exact rfl; exact rfl; all_goals first | (intro h; exact absurd h (by decide)) | (intro h; exact absurd rfl h) | (intro h; contradiction) | intro _) | (apply WO.hlv; exact rfl; exact rfl; exact rfl) | (apply WO.pl; exact rfl; exact rfl) | (apply WO.pp; exact rfl; exact rfl)
      refine LQn ?_
      refine ih (k + 1) _ _ (by omega) (fun lo wr => ?_)
      rw [show k + 1 + runLen l[i]! (l.drop (k + 1)) = k + (runLen l[i]! (l.drop (k + 1)) + 1) from by omega]
      exact hQ lo wr
    · rw [if_neg h, ] at e
      rw [e, Nat.add_zero] at hQ
      refine W.loop ?_
      unfold b19_0
      repeat' first | apply W.seq | apply SQn | apply WO.nil | apply W.exit | apply SQe | apply LQe | (apply W.drawro; exact rfl) | (apply W.condF; exact rfl) | (apply WO.gT; exact rfl) | (apply WO.lss; exact rfl; exact rfl; all_goals first | (intro _; exfalso; omega) | intro _) | (apply WO.pkT; exact rfl; exact rfl) | (apply WO.iav; exact rfl; exact rfl; omega) | (apply WO.lda; exact rfl; exact fun _ => rfl; (first | omega | (simp only [List.length_set]; omega) | (simp; omega)); decide; exact rfl; case ia => infer_instance) | (apply WO.seql; exact rfl; exact rfl; all_goals first | (intro h; exact absurd h (by decide)) | (intro h; exact absurd rfl h) | (intro h; contradiction) | intro _) | (apply WO.hlv; exact rfl; exact rfl; exact rfl) | (apply WO.pl; exact rfl; exact rfl)
      exact hQ _ _
theorem decD_len (n : Nat) : (decD n).length ≤ 20 := by
  unfold decD
  have : ∀ (k n : Nat) (s : Str), (decF 1 k n s).length ≤ k + s.length := by
    intro k
    induction k with
    | zero => intro n s; simp [decF]
    | succ k ih =>
      intro n s
      rw [decF]
      split
      · have := ih (n / 10) (dig ((n : Int) % 10) :: s)
        simp only [List.length_cons] at this
        omega
      · omega
  simpa using this 20 n []
theorem loop19 (c89 : ∀ (n : Nat) h, 0 < n → n < 1000000000 → M.ext 89 [.int .i64 n] h = some ⟨.str (decD n), h, []⟩) (l : List Str) (hl : l.length < 100000) (hL : ∀ s ∈ l, s.length < 100000) (rows : Int) (a0 a2 : AV) {Q : Ex → StW → Prop} : ∀ (r i : Nat) (out : Str) (a5 : AV) (lo : List (Nat × AV)) (wr : List Nat), l.length ≤ i + r → out.length ≤ i * 100100 →
    (∀ a4 a5 lo wr, Q (.exit 0) ⟨⟨[a0, .ptr 0 0, a2, .str (out ++ packN r (l.drop i)), a4, a5], lo, [some (.cells [.int .i64 rows, .vs (strs l) l.length cap] 25)], []⟩, wr⟩) →
    W M (.loop b19_1) ⟨⟨[a0, .ptr 0 0, a2, .str out, .int .i64 i, a5], lo, [some (.cells [.int .i64 rows, .vs (strs l) l.length cap] 25)], []⟩, wr⟩ Q := by
  intro r
  induction r with
  | zero =>
    intro i out a5 lo wr hi ho hQ
    simp only [packN, List.append_nil] at hQ
    refine W.loop ?_
    unfold b19_1
    repeat' first | apply W.seq | apply SQn | apply W.region | apply WO.nil | apply W.exit | apply SQe | apply LQe | (apply W.condF; exact rfl) | (apply WO.lss; exact rfl; exact rfl; all_goals first | (intro _; exfalso; omega) | intro _) | (apply WO.hlv; exact rfl; exact rfl; exact rfl) | (apply WO.pl; exact rfl; exact rfl)
    exact hQ _ _ _ _
  | succ r ih =>
    intro i out a5 lo wr hi ho hQ
    by_cases h : i < l.length
    · have e := packN_drop (k := r) h
      have hp := runLen_pos h
      have hle : runLen l[i]! (l.drop i) ≤ l.length - i := by have := runLen_le l[i]! (l.drop i); rw [List.length_drop] at this; exact this
      have q := fun hp' => c89 (runLen l[i]! (l.drop i)) hp' hp (by omega)
      have hs : (l[i]!).length < 100000 := hL _ (by rw [getElem!_pos l i h]; exact List.getElem_mem h)
      have hd := decD_len (runLen l[i]! (l.drop i))
      rw [e] at hQ
      refine W.loop ?_
      unfold b19_1
      repeat' first | apply W.seq | apply SQn | apply W.region | apply WO.nil | apply W.block | apply W.skip | (apply W.condT; exact rfl) | (apply WO.lss; exact rfl; exact rfl; all_goals first | (intro _; exfalso; omega) | intro _) | (apply WO.hlv; exact rfl; exact rfl; exact rfl) | (apply WO.pl; exact rfl; exact rfl) | (apply WO.pp; exact rfl; exact rfl)
      refine loop19a l hl rows i h _ _ _ (l.length - i) i _ _ (by omega) (fun lo wr => ?_)
      generalize runLen l[i]! (l.drop i) = n at *
      generalize decD n = ds at *
      rw [show (n : Int) = ((i + n : Nat) : Int) - (i : Int) from by omega] at q
      have hs' : (l[((i : Int)).toNat]!).length < 100000 := by rw [Int.toNat_natCast]; exact hs
      repeat' first | apply W.seq | apply SQn | apply W.region | apply WO.nil | apply BQn | apply BQe | apply W.draw | apply WD.nil | (apply WD.pure1; exact rfl) | (apply WD.load1; exact rfl; exact rfl; exact rfl) | (apply WO.sub; exact rfl; exact rfl; omega) | (apply WO.cat; exact rfl; exact rfl; first | omega | (simp only [List.length_append, List.length_cons, List.length_nil]; omega) | (simp; omega)) | (apply WD.cl0; exact rfl; exact rfl; exact rfl; first | exact q _) | (apply WO.iav; exact rfl; exact rfl; omega) | (apply WO.lda; exact rfl; exact fun _ => rfl; (first | omega | (simp only [List.length_set]; omega) | (simp; omega)); decide; exact rfl; case ia => infer_instance) | (apply WO.hlv; exact rfl; exact rfl; exact rfl) | (apply WO.pl; exact rfl; exact rfl) | (apply WO.pp; exact rfl; exact rfl)
      rw [Int.toNat_natCast]
      refine LQn ?_
      refine ih (i + n) _ _ _ _ (by omega) ?_ (fun a4 a5 lo wr => ?_)
      · simp only [List.length_append, List.length_cons, List.length_nil]
        have : (i + n) * 100100 = i * 100100 + n * 100100 := Nat.add_mul _ _ _
        have : 100100 ≤ n * 100100 := Nat.le_mul_of_pos_left _ hp
        omega
      · have := hQ a4 a5 lo wr
        simpa only [List.append_assoc] using this
    · rw [List.drop_eq_nil_of_le (by omega)] at hQ
      simp only [packN, List.append_nil] at hQ
      refine W.loop ?_
      unfold b19_1
      repeat' first | apply W.seq | apply SQn | apply W.region | apply WO.nil | apply W.exit | apply SQe | apply LQe | (apply W.condF; exact rfl) | (apply WO.lss; exact rfl; exact rfl; all_goals first | (intro _; exfalso; omega) | intro _) | (apply WO.hlv; exact rfl; exact rfl; exact rfl) | (apply WO.pl; exact rfl; exact rfl)
      exact hQ _ _ _ _
def packL (l : List Str) : Str := packN l.length l
theorem w19 (hft : M.FT = FT) (c89 : ∀ (n : Nat) h, 0 < n → n < 1000000000 → M.ext 89 [.int .i64 n] h = some ⟨.str (decD n), h, []⟩) (l : List Str) (hl : l.length < 100000) (hL : ∀ s ∈ l, s.length < 100000) (rows : Int) : Run M 19 [.agg [.int .i64 rows, .vs (strs l) l.length cap]] [] ⟨.str (packL l), [], []⟩ := by
  refine run_of_W (by rw [hft]; exact ft19) (by simp) ?_
  unfold b19
  simp only [List.map_cons, List.map_nil, List.getElem?_cons_zero, List.getElem?_cons_succ, List.getElem?_nil, Option.getD_some, Option.getD_none]
  repeat' first | apply W.seq | apply SQn | apply W.region | apply WO.nil | apply W.block | (apply WO.hpv; exact rfl; exact rfl; exact rfl) | (apply WO.pp; exact rfl; exact rfl)
  refine loop19 c89 l hl hL rows _ _ l.length 0 [] _ _ _ (by omega) (by simp) (fun a4 a5 lo wr => ?_)
  repeat' first | apply W.seq | apply SQn | apply W.region | apply WO.nil | apply W.ret | apply BQe | (apply WO.pl; exact rfl; exact rfl) | (apply WO.pp; exact rfl; exact rfl)
  exact ⟨.inr rfl, rfl, _, rfl, by rw [List.drop_zero, List.nil_append]; rfl, rfl⟩
end Go.Ab.Ch5


/-
  Own work: packed images: a builder of text.
-/
namespace Go.Ab.Ch5
variable {M : Mach} {cap : Option Nat}

def byts (s : Str) : List AV := s.map fun c => .int .u8 c.toNat
theorem byts_append (a b : Str) : byts (a ++ b) = byts a ++ byts b := by simp [byts]
theorem byts_len (a : Str) : (byts a).length = a.length := by simp [byts]
theorem byts_one (a : Str) : (byts a).all oneA = true := by simp [byts, oneA]
/-- A builder that holds a text; its bytes lie from block N on. -/
def Bld (N : Nat) (hp : Heap) (b : Nat) (acc : Str) : Prop := (acc = [] ∧ hp.at b = some (.cells [.nilp, .nilsl] 146)) ∨ (acc ≠ [] ∧ ∃ c, N ≤ c ∧ hp.at b = some (.cells [.ptr b 0, .sl c 0 acc.length 1 none] 146) ∧ hp.at c = some (.cells (byts acc) 5))

theorem put_same {h : Heap} {b : Nat} {x : Option Blk} {n : Nat} (hn : h.length = n) : (h.put b x).take n = h.put b x := List.take_of_length_le (by rw [put_length]; omega)
theorem retA_put {v : AV} {n b : Nat} {s : StW} {h : Heap} {c : List AV} {e : TypeId} (hv : v.top = 0) (hb : b < h.length) (hn : h.length = n) (hh : s.s.hp = h.put b (some (.cells c e))) (hw : ∀ x ∈ s.wr, x = b) (hc : topL c ≤ n) : retA v n s = ⟨v, h.put b (some (.cells c e)), s.wr.filter (· < n)⟩ := by
  have ht : tight s.s.hp n s.wr = true := by
    simp only [tight, List.all_eq_true]
    intro x hx
    rw [hw x hx, hh, at_put hb]
    simp [Blk.top, hc]
  rw [retA_tight (by omega) ht, hh, put_same hn]
theorem w156f (hft : M.FT = FT) (c208 : ∀ b h, M.ext 208 [.ptr b 0] h = some ⟨.ptr b 0, h, []⟩) (b : Nat) (hp : Heap) (hb : hp.at b = some (.cells [.nilp, .nilsl] 146)) : Run M 156 [.ptr b 0] hp ⟨.tup [], hp.put b (some (.cells [.ptr b 0, .nilsl] 146)), [b]⟩ := by
  have hlt := at_lt hb
  have q := c208 b hp
  refine run_of_WH (by rw [hft]; exact ft156) (by simp) ?_
  unfold b156
  simp only [List.map_cons, List.map_nil, List.getElem?_cons_zero, List.getElem?_cons_succ, List.getElem?_nil, Option.getD_some, Option.getD_none]
  repeat' first | (apply WO.ldb; exact rfl; exact hb; exact rfl) | (apply WO.upn; exact rfl; exact hb; decide) | (apply WO.upt; exact rfl; exact hb; decide) | (apply WO.stj (c' := [.ptr b 0, .nilsl]); exact rfl; exact rfl; exact hb; exact ⟨rfl, by decide, rfl⟩; exact rfl) | apply W.seq | apply SQn | apply W.region | apply WO.nil | (apply W.condT; exact rfl) | (apply WO.cll; exact rfl; exact rfl; first | exact q) | (apply WO.pl; exact rfl; exact rfl)
  refine ⟨.inl rfl, rfl, [], rfl, ?_⟩
  refine (retA_put (v := .tup []) rfl hlt rfl rfl (by simp) ?_).trans ?_
  · show max (b + 1) (max 0 0) ≤ _
    omega
  · simp [hlt]
theorem w156u (hft : M.FT = FT) (b : Nat) (hp : Heap) (v : AV) (hb : hp.at b = some (.cells [.ptr b 0, v] 146)) : Run M 156 [.ptr b 0] hp ⟨.tup [], hp, []⟩ := by
  refine run_same (by rw [hft]; exact ft156) (by simp) ?_
  unfold b156
  simp only [List.map_cons, List.map_nil, List.getElem?_cons_zero, List.getElem?_cons_succ, List.getElem?_nil, Option.getD_some, Option.getD_none]
  repeat' first | (apply WO.ldb; exact rfl; exact hb; exact rfl) | (apply WO.epT; exact rfl; exact rfl; exact hb) | apply W.seq | apply SQn | apply W.region | apply WO.nil | apply W.skip | (apply W.condF; exact rfl) | (apply WO.pl; exact rfl; exact rfl)
  exact ⟨.inl rfl, rfl, rfl, rfl, [], rfl, rfl⟩
/-- What a builder's function may do to the heap: blocks below N but the builder's stay. -/
structure Kept (N b : Nat) (hp H : Heap) (wr : List Nat) : Prop where
  len : hp.length ≤ H.length
  at' : ∀ a, a < N → a ≠ b → H[a]? = hp[a]?
  wr : ∀ x ∈ wr, x = b ∨ N ≤ x
theorem at_get {h h' : Heap} {a : Nat} (e : h'[a]? = h[a]?) : h'.at a = h.at a := by simp only [Heap.at, e]
theorem put_get {h : Heap} {a b : Nat} {x : Option Blk} (hn : a ≠ b) : (h.put b x)[a]? = h[a]? := by
  simp only [Heap.put, List.getElem?_set, if_neg (fun e : b = a => hn e.symm)]
theorem app_get {h l : Heap} {a : Nat} (hn : a < h.length) : (h ++ l)[a]? = h[a]? := List.getElem?_append_left hn

theorem w83 (hft : M.FT = FT) (n156 : ∀ ars h, M.ext 156 ars h = none) (c208 : ∀ b h, M.ext 208 [.ptr b 0] h = some ⟨.ptr b 0, h, []⟩) (N b : Nat) (hp : Heap) (acc s : Str) (hN : b < N ∧ N ≤ hp.length) (hs : s ≠ []) (hl : acc.length + s.length < 1000000000) (hB : Bld N hp b acc) :
    WRun M 83 [.ptr b 0, .str s] hp fun r => r.v = .tup [.int .i64 s.length, .niliface] ∧ Bld N r.h b (acc ++ s) ∧ Kept N b hp r.h r.wr ∧ b ∈ r.wr ∧ r.h.at b = some (.cells [.ptr b 0, .sl hp.length 0 (acc ++ s).length 1 none] 146) := by
  have h0 : 0 < s.length := List.length_pos_iff.2 hs
  have hne : acc ++ s ≠ [] := by simp [hs]
  rcases hB with ⟨rfl, hb⟩ | ⟨ha, c, hc, hb, hcb⟩
  · have hlt := at_lt hb
    have q := CT.run (fi := []) (ca := []) (ars := [.ptr b 0]) (n156 _ _) (w156f hft c208 b hp hb)
    have hb1 : (hp.put b (some (.cells [.ptr b 0, .nilsl] 146))).at b = some (.cells [.ptr b 0, .nilsl] 146) := at_put hlt
    have hb2 := at_old (l := [some (.cells (byts s) 5)]) hb1
    have hsc : sliceCells (hp.put b (some (.cells [.ptr b 0, .nilsl] 146))) (.str s) = some (byts s, s.length) := rfl
    refine WRun.of_W (by rw [hft]; exact ft83) (by simp) ?_
    unfold b83
    simp only [List.map_cons, List.map_nil, List.getElem?_cons_zero, List.getElem?_cons_succ, List.getElem?_nil, Option.getD_some, Option.getD_none]
    repeat' first | (apply WO.ldb; exact rfl; exact hb1; exact rfl) | (apply WO.apn; exact rfl; exact rfl; exact hsc; exact ⟨(byts_len s).trans (Nat.mul_one _).symm, by decide, byts_one s⟩; exact ⟨h0, by simp only [roomLimit]; omega⟩) | (apply WO.stj (c' := [.ptr b 0, .sl (hp.put b (some (.cells [.ptr b 0, .nilsl] 146))).length 0 s.length 1 none]); exact rfl; exact rfl; exact hb2; exact ⟨rfl, Nat.le_refl _, rfl⟩; exact rfl) | apply W.seq | apply SQn | apply W.region | apply WO.nil | apply W.ret | (apply WO.ct; exact rfl; exact rfl; first | exact q) | (apply WO.pl; exact rfl; exact rfl) | (apply WO.pp; exact rfl; exact rfl)
    refine ⟨.inr rfl, _, rfl, [.int .i64 s.length, .niliface], rfl, ?_⟩
    rw [retA_loose' (n := hp.length) rfl rfl ?_]
    · have hL : (hp.put b (some (Blk.cells [.ptr b 0, .nilsl] 146)) ++ [some (Blk.cells (byts s) 5)]).length = hp.length + 1 := by simp [put_length]
      refine ⟨rfl, .inr ⟨hne, hp.length, hN.2, ?_, ?_⟩, ⟨?_, fun a h1 h2 => ?_, ?_⟩, by simp [hlt], ?_⟩
      · simp only [at_put (show b < _ by rw [hL]; omega), put_length, List.nil_append]
      · rw [List.nil_append]
        refine at_else (by omega) ?_
        have := at_new (h := hp.put b (some (Blk.cells [.ptr b 0, .nilsl] 146))) (x := some (Blk.cells (byts s) 5))
        rw [put_length] at this
        exact this
      · rw [put_length, hL]; omega
      · rw [put_get h2, app_get (by rw [put_length]; omega), put_get h2]
      · simp
      · simp only [at_put (show b < _ by rw [hL]; omega), put_length, List.nil_append]
    · simp only [tight, List.all_eq_false]
      refine ⟨b, by simp, ?_⟩
      rw [at_put (by simp [put_length]; omega)]
      simp [Blk.top, topL, AV.top, put_length]
      omega
  · have hlt := at_lt hb
    have q := CT.run (fi := []) (ca := []) (ars := [.ptr b 0]) (n156 _ _) (w156u hft b hp _ hb)
    have hsc : sliceCells hp (.str s) = some (byts s, s.length) := rfl
    have hcl := at_lt hcb
    have hbc : b ≠ c := by omega
    have hb2 : Heap.at (hp.put c none ++ [some (.cells (byts acc ++ byts s) 5)]) b = some (.cells [.ptr b 0, .sl c 0 acc.length 1 none] 146) := at_old (at_else hbc hb)
    refine WRun.of_W (by rw [hft]; exact ft83) (by simp) ?_
    unfold b83
    simp only [List.map_cons, List.map_nil, List.getElem?_cons_zero, List.getElem?_cons_succ, List.getElem?_nil, Option.getD_some, Option.getD_none]
    repeat' first | (apply WO.ldb; exact rfl; exact hb; exact rfl) | (apply WO.apo; exact rfl; exact rfl; exact hsc; exact ⟨(byts_len s).trans (Nat.mul_one _).symm, by decide, byts_one s⟩; exact ⟨h0, by simp only [roomLimit]; omega⟩; exact hcb; exact ((byts_len acc).trans (Nat.mul_one _).symm).trans (Nat.zero_add _).symm) | (apply WO.stj (c' := [.ptr b 0, .sl hp.length 0 (acc.length + s.length) 1 none]); exact rfl; exact rfl; exact hb2; exact ⟨rfl, Nat.le_refl _, rfl⟩; exact rfl) | apply W.seq | apply SQn | apply W.region | apply WO.nil | apply W.ret | (apply WO.ct; exact rfl; exact rfl; first | exact q) | (apply WO.pl; exact rfl; exact rfl) | (apply WO.pp; exact rfl; exact rfl)
    refine ⟨.inr rfl, _, rfl, [.int .i64 s.length, .niliface], rfl, ?_⟩
    rw [retA_loose' (n := hp.length) rfl rfl ?_]
    · have hL : (hp.put c none ++ [some (Blk.cells (List.drop 0 (byts acc) ++ byts s) 5)]).length = hp.length + 1 := by simp [put_length]
      refine ⟨rfl, .inr ⟨hne, hp.length, hN.2, ?_, ?_⟩, ⟨?_, fun a h1 h2 => ?_, ?_⟩, by simp [hlt], ?_⟩
      · simp only [at_put (show b < _ by rw [hL]; omega), List.length_append]
      · refine at_else (by omega) ?_
        have := at_new (h := hp.put c none) (x := some (Blk.cells (List.drop 0 (byts acc) ++ byts s) 5))
        rw [put_length] at this
        rw [this, List.drop_zero, byts_append]
      · rw [put_length, hL]; omega
      · rw [put_get h2, app_get (by rw [put_length]; omega), put_get (by omega)]
      · intro x hx
        simp at hx
        omega
      · simp only [at_put (show b < _ by rw [hL]; omega), List.length_append]
    · simp only [tight, List.all_eq_false]
      refine ⟨b, by simp, ?_⟩
      rw [at_put (by simp [put_length]; omega)]
      simp [Blk.top, topL, AV.top]
      omega
theorem w85 (hft : M.FT = FT) (N b : Nat) (hp : Heap) (acc : Str) (hB : Bld N hp b acc) (hne : acc ≠ []) : Run M 85 [.ptr b 0] hp ⟨.int .i64 acc.length, hp, []⟩ := by
  rcases hB with ⟨rfl, hb⟩ | ⟨ha, c, hc, hb, hcb⟩
  · exact absurd rfl hne
  refine run_same (by rw [hft]; exact ft85) (by simp) ?_
  unfold b85
  simp only [List.map_cons, List.map_nil, List.getElem?_cons_zero, List.getElem?_cons_succ, List.getElem?_nil, Option.getD_some, Option.getD_none]
  repeat' first | (apply WO.ldb; exact rfl; exact hb; exact rfl) | apply W.seq | apply SQn | apply W.region | apply WO.nil | apply W.ret | (apply WO.pl; exact rfl; exact rfl) | (apply WO.pp; exact rfl; exact rfl)
  exact ⟨.inr rfl, rfl, rfl, rfl, _, rfl, rfl⟩
theorem bytesOf_byts : ∀ a : Str, bytesOf (byts a) = some a
  | [] => rfl
  | c :: a => by
    have := bytesOf_byts a
    show bytesOf (.int .u8 c.toNat :: byts a) = _
    rw [bytesOf, this]
    simp
theorem w86 (hft : M.FT = FT) (N b : Nat) (hp : Heap) (acc : Str) (hB : Bld N hp b acc) (hne : acc ≠ []) (hl : acc.length < 1000000000) (hN : b < N ∧ N ≤ hp.length) : WRun M 86 [.ptr b 0] hp fun r => r.v = .str acc ∧ Kept N b hp r.h r.wr := by
  have h0 : 0 < acc.length := List.length_pos_iff.2 hne
  rcases hB with ⟨rfl, hb⟩ | ⟨ha, c, hc, hb, hcb⟩
  · exact absurd rfl hne
  have hcl := at_lt hcb
  refine WRun.of_W (by rw [hft]; exact ft86) (by simp) ?_
  unfold b86
  simp only [List.map_cons, List.map_nil, List.getElem?_cons_zero, List.getElem?_cons_succ, List.getElem?_nil, Option.getD_some, Option.getD_none]
  have hcut : cut (byts acc) 0 ((acc.length : Int)).toNat = some (byts acc) := by
    rw [Int.toNat_natCast]; simp [cut, byts_len]; exact List.take_of_length_le (by rw [byts_len]; exact Nat.le_refl _)
  repeat' first | (apply WO.ldb; exact rfl; exact hb; exact rfl) | (apply WO.sdt; exact rfl; exact h0) | (apply WD.ustr; exact rfl; exact rfl; exact hcb; omega; exact hcut; exact bytesOf_byts acc; intro _) | apply W.seq | apply SQn | apply W.region | apply WO.nil | apply W.ret | apply W.draw | apply WD.nil | (apply WD.pure1; exact rfl) | (apply WD.load1; exact rfl; exact rfl; exact rfl) | (apply WO.pl; exact rfl; exact rfl) | (apply WO.pp; exact rfl; exact rfl)
  refine ⟨.inr rfl, _, rfl, [.str acc], rfl, ?_⟩
  rw [retA_tight' (n := hp.length) rfl rfl (Nat.zero_le _) ?_]
  · refine ⟨rfl, ?_, fun a h1 h2 => ?_, ?_⟩
    · simp only [put_same rfl, put_length]; exact Nat.le_refl _
    · simp only [put_same rfl]
      exact put_get (by omega)
    · intro x hx
      simp at hx
      omega
  · have : Heap.at (hp.put c none) c = none := at_put hcl
    simp [tight, this]
end Go.Ab.Ch5


/-
  Own work: Atoi of few digits; the integers of the lines.
-/
namespace Go.Ab.Ch5
variable {M : Mach} {cap : Option Nat}

def dvF (n : Nat) (s : Str) : Nat := s.foldl (fun n b => 10 * n + (b.toNat - 48)) n
theorem dvF_cons (n : Nat) (b : UInt8) (s : Str) : dvF n (b :: s) = dvF (10 * n + (b.toNat - 48)) s := by rw [dvF, dvF, List.foldl_cons]
structure CAt (M : Mach) : Prop where
  ft : M.FT = FT
  n278 : ∀ ars h, M.ext 278 ars h = none
theorem byts_get {s : Str} {i : Nat} (h : i < s.length) : (byts s)[i]? = some (.int .u8 (s[i]!).toNat) := by
  rw [byts, List.getElem?_map, List.getElem?_eq_getElem h, getElem!_pos s i h]
  rfl
theorem isD_iff (b : UInt8) : isD b = true ↔ 48 ≤ b.toNat ∧ b.toNat < 58 := by
  simp [isD, digB]
theorem loop278 {H : Heap} {c : Nat} (s : Str) (hb : H.at c = some (.cells (byts s) 5)) (hs : s.length ≤ 18) (hd : s.all isD = true) (cp : Option Nat) (a1 a2 a3 a4 a7 a8 : AV) {Q : Ex → StW → Prop} : ∀ (r i n : Nat) (a6 : AV) (lo : List (Nat × AV)) (wr : List Nat), i + r = s.length → n < 10 ^ i →
    (∀ a6 lo, Q (.exit 0) ⟨⟨[.str s, a1, a2, a3, a4, .int .i64 (dvF n (s.drop i)), a6, a7, a8, .sl c 0 s.length 1 cp, .int .i64 s.length, .int .i64 s.length], lo, H, []⟩, wr⟩) →
    W M (.loop b278_0) ⟨⟨[.str s, a1, a2, a3, a4, .int .i64 n, a6, a7, a8, .sl c 0 s.length 1 cp, .int .i64 s.length, .int .i64 i], lo, H, []⟩, wr⟩ Q := by
  intro r
  induction r with
  | zero =>
    intro i n a6 lo wr hi hn hQ
    obtain rfl : i = s.length := by omega
    rw [List.drop_length] at hQ
    refine W.loop ?_
    unfold b278_0
    repeat' first | apply W.seq | apply SQn | apply W.region | apply WO.nil | apply W.exit | apply SQe | apply LQe | (apply W.condF; exact rfl) | (apply WO.lss; exact rfl; exact rfl; all_goals first | (intro _; exfalso; omega) | intro _)
    exact hQ _ _
  | succ r ih =>
    intro i n a6 lo wr hi hn hQ
    have hil : i < s.length := by omega
    have hp : 10 ^ i ≤ 10 ^ 17 := Nat.pow_le_pow_right (by decide) (by omega)
    have hg : s[i]! = s[i] := getElem!_pos s i hil
    have hm := List.all_eq_true.1 hd (s[i]!) (by rw [hg]; exact List.getElem_mem hil)
    have hx := (isD_iff _).1 hm
    rw [List.drop_eq_getElem_cons hil, dvF_cons, ← hg] at hQ
    have hpart : partOf ((byts s).drop (0 + ((i : Int)).toNat * 1)) 0 1 false = some (.int .u8 (s[i]!).toNat) := by
      rw [part_drop, Int.toNat_natCast, Nat.zero_add, Nat.mul_one]
      simp only [partOf, Bool.false_eq_true, if_false]
      exact byts_get hil
    refine W.loop ?_
    unfold b278_0
    repeat' first | (apply WO.ldj; exact rfl; exact hb; exact hpart) | (apply WO.sub8; exact rfl; exact rfl; omega) | apply W.seq | apply SQn | apply W.region | apply WO.nil | apply W.block | apply W.skip | apply BQn | (apply W.condT; exact rfl) | (apply W.condF; exact rfl) | (apply WO.lss; exact rfl; exact rfl; all_goals first | (intro _; exfalso; omega) | intro _) | (apply WO.gtr; exact rfl; exact rfl; all_goals first | (intro _; exfalso; omega) | intro _) | (apply WO.cvi; exact rfl; omega) | (apply WO.add; exact rfl; exact rfl; omega) | (apply WO.mul; exact rfl; exact rfl; omega) | (apply WO.ias; exact rfl; exact rfl; omega) | (apply WO.pl; exact rfl; exact rfl) | (apply WO.pp; exact rfl; exact rfl)
    refine LQn ?_
    have hpow : 10 ^ (i + 1) = 10 * 10 ^ i := by rw [Nat.pow_succ, Nat.mul_comm]
    have e := ih (i + 1) (10 * n + ((s[i]!).toNat - 48))
    rw [show (((10 * n + ((s[i]!).toNat - 48) : Nat) : Int)) = (n : Int) * 10 + (((s[i]!).toNat : Int) - 48) by omega, show (((i + 1 : Nat) : Int)) = (i : Int) + 1 by omega] at e
    exact e _ _ _ (by omega) (by omega) hQ
theorem w278 (C : CAt M) (s : Str) (h0 : s ≠ []) (hl : s.length ≤ 18) (hd : s.all isD = true) (H : Heap) : Run M 278 [.str s] H ⟨.tup [.int .i64 (dvF 0 s), .niliface], H, []⟩ := by
  have hpos : 0 < s.length := List.length_pos_iff.2 h0
  have hg : s[0]! = s[0] := getElem!_pos s 0 hpos
  have hx : 48 ≤ (s[Int.toNat 0]!).toNat ∧ (s[Int.toNat 0]!).toNat < 58 := (isD_iff _).1 (List.all_eq_true.1 hd (s[0]!) (by rw [hg]; exact List.getElem_mem hpos))
  refine run_dropT (by rw [C.ft]; exact ft278) (by simp) (Nat.zero_le _) ?_
  unfold b278
  simp only [List.map_cons, List.map_nil, List.getElem?_cons_zero, List.getElem?_cons_succ, List.getElem?_nil, Option.getD_some, Option.getD_none]
  repeat' first | apply W.seq | apply SQn | apply W.region | apply WO.nil | apply W.block | apply W.skip | (apply W.condT; exact rfl) | (apply W.condF; exact rfl) | (apply WO.gT; exact rfl) | (apply WO.gF; exact rfl) | (apply WO.sT; exact rfl) | (apply WO.sU; exact rfl) | (apply WO.lss; exact rfl; exact rfl; all_goals first | (intro _; exfalso; omega) | intro _) | (apply WO.eql; exact rfl; exact rfl; all_goals first | (intro _; exfalso; omega) | intro _) | (apply WO.pkT; exact rfl; exact rfl) | (apply WO.pkF; exact rfl; exact rfl) | (apply WO.idx; exact rfl; exact rfl; omega) | (apply WO.hpv; exact rfl; exact rfl; exact rfl) | (apply WO.pl; exact rfl; exact rfl) | (apply WO.pp; exact rfl; exact rfl)
  refine loop278 (H := H ++ [some (.cells (byts s) 5)]) (c := H.length) s at_new hl hd none _ _ _ _ _ _ s.length 0 0 _ _ _ (by omega) (by simp) (fun a6 lo => ?_)
  rw [List.drop_zero]
  repeat' first | apply W.seq | apply SQn | apply W.region | apply WO.nil | apply W.ret | apply W.skip | apply SQr | apply BQe | (apply W.condF; exact rfl) | (apply WO.eql; exact rfl; exact rfl; all_goals first | (intro _; exfalso; omega) | intro _) | (apply WO.idx; exact rfl; exact rfl; omega) | (apply WO.pl; exact rfl; exact rfl) | (apply WO.pp; exact rfl; exact rfl)
  exact ⟨.inr rfl, rfl, ⟨_, rfl⟩, fun x h => by simp at h, _, rfl, rfl⟩
structure CAt' (M : Mach) : Prop where
  at' : CAt M
  c211 : ∀ (s : Str) h, s.length < 1000000 → M.ext 211 [.str s, .str digits10] h = some ⟨.str (trimL (trimR s)), h, []⟩
  c212 : ∀ (s : Str) h, s ≠ [] → s.length ≤ 18 → s.all isD = true → M.ext 212 [.str s] h = some ⟨.tup [.int .i64 (dvF 0 s), .niliface], h, []⟩
theorem w212 (C : CAt M) (s : Str) (h0 : s ≠ []) (hl : s.length ≤ 18) (hd : s.all isD = true) : Run M 212 [.str s] [] ⟨.tup [.int .i64 (dvF 0 s), .niliface], [], []⟩ := by
  have hc := CT.run (fi := []) (ca := []) (ars := [.str s]) (C.n278 _ _) (w278 C s h0 hl hd [])
  refine run_of_W (by rw [C.ft]; exact ft212) (by simp) ?_
  unfold b212
  simp only [List.map_cons, List.map_nil, List.getElem?_cons_zero, List.getElem?_cons_succ, List.getElem?_nil, Option.getD_some, Option.getD_none]
  repeat' first | apply W.seq | apply SQn | apply W.region | apply WO.nil | apply W.ret | apply W.skip | (apply W.condF; exact rfl) | (apply WO.ct; exact rfl; exact rfl; first | exact hc) | (apply WO.pl; exact rfl; exact rfl) | (apply WO.pp; exact rfl; exact rfl)
  exact ⟨.inr rfl, rfl, _, rfl, rfl, rfl⟩
theorem dropWhile_nil {p : UInt8 → Bool} : ∀ l : Str, l.dropWhile p = [] ↔ ∀ x ∈ l, p x = true
  | [] => by simp
  | c :: l => by
    rw [List.dropWhile_cons]
    split
    · rename_i h
      rw [dropWhile_nil l]
      simp [h]
    · rename_i h
      simp [h]
theorem trim_nil (s : Str) : trimL (trimR s) = [] ↔ s.all isD = true := by
  rcases List.eq_nil_or_concat s with rfl | ⟨t, c, e⟩
  · simp [trimL, trimR]
  · rw [List.concat_eq_append] at e
    subst e
    have hlen : t.length < (t ++ [c]).length := by simp
    rw [trimR_snoc]
    split
    · rename_i h
      rw [trim_nil t]
      simp only [List.all_append, List.all_cons, List.all_nil, h, Bool.and_true]
    · rename_i h
      unfold trimL
      rw [dropWhile_nil, List.all_eq_true]
termination_by s.length
decreasing_by subst_vars; simp
def intOk (s : Str) : Bool := decide (s ≠ []) && decide (s.length ≤ 9) && s.all isD && !(decide (1 < s.length) && decide (s[0]! = 48))
def intV (s : Str) : AV := .tup [.int .i64 (if intOk s then dvF 0 s else 0), .bool (intOk s)]
theorem w161 (C : CAt' M) (s : Str) (hl : s.length < 1000000) : Run M 161 [.str s] [] ⟨intV s, [], []⟩ := by
  have h1 : ([48] : Str).length = 1 := rfl
  refine run_of_W (by rw [C.at'.ft]; exact ft161) (by simp) ?_
  unfold b161
  simp only [List.map_cons, List.map_nil, List.getElem?_cons_zero, List.getElem?_cons_succ, List.getElem?_nil, Option.getD_some, Option.getD_none]
  by_cases h0 : s = []
  · subst h0
    repeat' first | (apply WO.seql; exact rfl; exact rfl; intro _; rotate_left; (intro h; exact absurd rfl h)) | apply W.seq | apply SQn | apply W.region | apply WO.nil | apply W.ret | apply SQr | (apply W.condT; exact rfl) | (apply WO.sF; exact rfl) | (apply WO.sU; exact rfl) | (apply WO.pkT; exact rfl; exact rfl) | (apply WO.pl; exact rfl; exact rfl) | (apply WO.pp; exact rfl; exact rfl)
    exact ⟨.inr rfl, rfl, _, rfl, rfl, rfl⟩
  have hpos : 0 < s.length := List.length_pos_iff.2 h0
  by_cases h9 : 9 < s.length
  · have e : intOk s = false := by rw [intOk, decide_eq_false (show ¬ s.length ≤ 9 by omega)]; simp
    rw [intV, e]
    repeat' first | (apply WO.seql; exact rfl; exact rfl; (intro h; exact absurd h h0); intro _) | apply W.seq | apply SQn | apply W.region | apply WO.nil | apply W.ret | apply SQr | (apply W.condT; exact rfl) | (apply WO.gF; exact rfl) | (apply WO.sF; exact rfl) | (apply WO.sU; exact rfl) | (apply WO.gtr; exact rfl; exact rfl; all_goals first | (intro _; exfalso; omega) | intro _) | (apply WO.pkT; exact rfl; exact rfl) | (apply WO.pkF; exact rfl; exact rfl) | (apply WO.pl; exact rfl; exact rfl) | (apply WO.pp; exact rfl; exact rfl)
    exact ⟨.inr rfl, rfl, _, rfl, rfl, rfl⟩
  cases hd : s.all isD with
  | false =>
    have e : intOk s = false := by simp [intOk, hd]
    have hz : trimL (trimR s) ≠ [] := fun h => by rw [trim_nil, hd] at h; cases h
    have q211 := fun h => C.c211 s h hl
    rw [intV, e]
    repeat' first | (apply WO.seql; exact rfl; exact rfl; (intro h; exact absurd h h0); intro _) | (apply WO.sneq; exact rfl; exact rfl; all_goals first | (intro h; exact absurd hz h) | (intro h; exact absurd h hz) | intro _) | apply W.seq | apply SQn | apply W.region | apply WO.nil | apply W.ret | apply SQr | (apply W.condT; exact rfl) | (apply WO.gF; exact rfl) | (apply WO.sF; exact rfl) | (apply WO.sU; exact rfl) | (apply WO.gtr; exact rfl; exact rfl; all_goals first | (intro _; exfalso; omega) | intro _) | (apply WO.pkT; exact rfl; exact rfl) | (apply WO.pkF; exact rfl; exact rfl) | (apply WO.cll; exact rfl; exact rfl; first | exact q211 _) | (apply WO.pl; exact rfl; exact rfl) | (apply WO.pp; exact rfl; exact rfl)
    exact ⟨.inr rfl, rfl, _, rfl, rfl, rfl⟩
  | true =>
    have hz : trimL (trimR s) = [] := (trim_nil s).2 hd
    have q211 := fun h => C.c211 s h hl
    rw [hz] at q211
    have q212 := fun h => C.c212 s h h0 (by omega) hd
    have e0 : intOk s = !(decide (1 < s.length) && decide (s[0]! = 48)) := by
      rw [intOk, hd, decide_eq_true h0, decide_eq_true (show s.length ≤ 9 by omega)]; simp
    by_cases hq : s[Int.toNat 0]! = 48
    · have hq' : (s[Int.toNat 0]!).toNat = 48 := by rw [hq]; rfl
      have hq0 : s[0]! = 48 := hq
      by_cases hs : s = [48]
      · have e : intOk s = true := by rw [e0, hs]; rfl
        rw [intV, e]
        repeat' first | (apply WO.seql; exact rfl; exact rfl; (intro h; exact absurd h h0); intro _) | (apply WO.sneq; exact rfl; exact rfl; (intro h; first | exact absurd rfl h | exact absurd hs h); intro _) | apply W.seq | apply SQn | apply W.region | apply WO.nil | apply W.ret | apply W.skip | (apply W.drawro; exact rfl) | (apply W.condF; exact rfl) | (apply WO.gT; exact rfl) | (apply WO.gF; exact rfl) | (apply WO.gtr; exact rfl; exact rfl; all_goals first | (intro _; exfalso; omega) | intro _) | (apply WO.eql; exact rfl; exact rfl; all_goals first | (intro _; exfalso; omega) | intro _) | (apply WO.pkT; exact rfl; exact rfl) | (apply WO.pkF; exact rfl; exact rfl) | (apply WO.cll; exact rfl; exact rfl; first | exact q211 _) | (apply WO.cll; exact rfl; exact rfl; first | exact q212 _) | (apply WO.idx; exact rfl; exact rfl; omega) | (apply WO.pl; exact rfl; exact rfl) | (apply WO.pp; exact rfl; exact rfl)
        exact ⟨.inr rfl, rfl, _, rfl, rfl, rfl⟩
      · have hlen : 1 < s.length := by
          rcases s with _ | ⟨a, _ | ⟨b, t⟩⟩
          · exact absurd rfl h0
          · exact absurd (congrArg (fun x => [x]) hq0) hs
          · simp
        have e : intOk s = false := by rw [e0, decide_eq_true hlen, decide_eq_true hq0]; rfl
        rw [intV, e]
        repeat' first | (apply WO.seql; exact rfl; exact rfl; (intro h; exact absurd h h0); intro _) | (apply WO.sneq; exact rfl; exact rfl; all_goals first | (intro h; exact absurd rfl h) | (intro h; exact absurd h hs) | intro _) | apply W.seq | apply SQn | apply W.region | apply WO.nil | apply W.ret | apply SQr | (apply W.condT; exact rfl) | (apply WO.gT; exact rfl) | (apply WO.gF; exact rfl) | (apply WO.gtr; exact rfl; exact rfl; all_goals first | (intro _; exfalso; omega) | intro _) | (apply WO.eql; exact rfl; exact rfl; all_goals first | (intro _; exfalso; omega) | intro _) | (apply WO.pkT; exact rfl; exact rfl) | (apply WO.pkF; exact rfl; exact rfl) | (apply WO.cll; exact rfl; exact rfl; first | exact q211 _) | (apply WO.idx; exact rfl; exact rfl; omega) | (apply WO.pl; exact rfl; exact rfl) | (apply WO.pp; exact rfl; exact rfl)
        exact ⟨.inr rfl, rfl, _, rfl, rfl, rfl⟩
    · have hq' : (s[Int.toNat 0]!).toNat ≠ 48 := fun h => hq (UInt8.toNat_inj.1 (h.trans rfl))
      have hq0 : ¬ s[0]! = 48 := hq
      have e : intOk s = true := by rw [e0, decide_eq_false hq0]; simp
      rw [intV, e]
      repeat' first | (apply WO.seql; exact rfl; exact rfl; (intro h; exact absurd h h0); intro _) | (apply WO.sneq; exact rfl; exact rfl; (intro h; exact absurd rfl h); intro _) | apply W.seq | apply SQn | apply W.region | apply WO.nil | apply W.ret | apply W.skip | (apply W.drawro; exact rfl) | (apply W.condF; exact rfl) | (apply WO.gF; exact rfl) | (apply WO.sT; exact rfl) | (apply WO.gtr; exact rfl; exact rfl; all_goals first | (intro _; exfalso; omega) | intro _) | (apply WO.eql; exact rfl; exact rfl; all_goals first | (intro _; exfalso; omega) | intro _) | (apply WO.pkF; exact rfl; exact rfl) | (apply WO.cll; exact rfl; exact rfl; first | exact q211 _) | (apply WO.cll; exact rfl; exact rfl; first | exact q212 _) | (apply WO.idx; exact rfl; exact rfl; omega) | (apply WO.pl; exact rfl; exact rfl) | (apply WO.pp; exact rfl; exact rfl)
      exact ⟨.inr rfl, rfl, _, rfl, rfl, rfl⟩
end Go.Ab.Ch5


/-
  Own work: packed images: the text of an image, by its runs.
-/
namespace Go.Ab.Ch5
variable {M : Mach} {cap : Option Nat}

abbrev asgP : ICode := (.seq (.region [⟨(.p 6), .mv (.p 8), none⟩])
         (.region [⟨(.p 7), .mv (.p 9), none⟩]))
abbrev bodP : ICode := (.block 1
         (.region [⟨(.l 18), .mv (.p 6), none⟩,
           ⟨(.l 19), .call (.c (.fn (.func 84) [] [])) [(.l 18)], none⟩,
           ⟨(.l 20), .bin .add (.l 19) (.c (.str [32])), none⟩,
           ⟨(.l 21), .mv (.p 7), none⟩,
           ⟨(.l 22), .bin .add (.l 20) (.l 21), none⟩,
           ⟨(.l 23), .bin .add (.l 22) (.c (.str [10])), none⟩,
           ⟨(.l 24), .call (.c (.fn (.func 83) [] [])) [(.p 5), (.l 23)], none⟩]))
abbrev peP (a0 u6 u7 u8 u9 : AV) : List AV := [a0, .ptr 0 0, .str [], .int .i64 0, .int .i64 0, .ptr 1 0, u6, u7, u8, u9]
/-- The heap of Pack between two rounds. -/
structure PackH (l : List Str) (cap : Option Nat) (a0 u6 u7 u8 u9 : AV) (hp : Heap) (acc : Str) : Prop where
  len : 5 ≤ hp.length
  box : hp.at 2 = some (.cells [.vs (strs l) l.length cap] 22)
  dfr : hp.at 3 = some .dfr
  loop : hp.at 4 = some (.loop .ready none (peP a0 u6 u7 u8 u9) [(.p 8), (.p 9)] asgP bodP)
  bld : Bld 5 hp 1 acc
structure C17 (M : Mach) : Prop where
  ft : M.FT = FT
  n83 : ∀ ars h, M.ext 83 ars h = none
  n156 : ∀ ars h, M.ext 156 ars h = none
  c208 : ∀ b h, M.ext 208 [.ptr b 0] h = some ⟨.ptr b 0, h, []⟩
  c84 : ∀ (n : Nat) h, 0 < n → n < 400 → M.ext 84 [.int .i64 n] h = some ⟨.str (decD n), h, []⟩
def lineOf (n : Nat) (x : Str) : Str := ((decD n ++ [32]) ++ x) ++ [10]
theorem WO.packY (C : C17 M) {t : Nat} {f : IOpd} {args : List IOpd} {ls : List IOper} {pe0 : List AV} {lo : List (Nat × AV)} {hp : Heap} {df wr : List Nat} {Q : StW → Prop} {l : List Str} {a0 u6 u7 u8 u9 : AV} {acc x y : Str} {n : Nat} {z : Int} (hf : (St.mk pe0 lo hp df).opd f = some (.fn (.yield 4) [] [])) (ha : (St.mk pe0 lo hp df).opds args = some [.int .i64 z, .str y]) (hz : z = n) (hy : x = y)
    (hG : PackH l cap a0 u6 u7 u8 u9 hp acc) (hn : 0 < n ∧ n < 400) (hx : x.length < 1000000) (hacc : acc.length < 500000000) (h : ∀ hp' wr', PackH l cap a0 u6 u7 u8 u9 hp' (acc ++ lineOf n x) → hp.length ≤ hp'.length → 1 ∈ wr' → hp'.at 1 = some (.cells [.ptr 1 0, .sl hp.length 0 (acc ++ lineOf n x).length 1 none] 146) → WO M ls ⟨⟨pe0, (t, .bool true) :: lo, hp', df⟩, wr'⟩ Q) :
    WO M (⟨.l t, .call f args, none⟩ :: ls) ⟨⟨pe0, lo, hp, df⟩, wr⟩ Q := by
  subst hz hy
  have hd := decD_len n
  have q84 := fun h => C.c84 n h hn.1 (by omega)
  have hl4 := hG.len
  have hB : Bld 5 (hp.put 4 (some (.loop .busy none (peP a0 u6 u7 u8 u9) [(.p 8), (.p 9)] asgP bodP))) 1 acc := by
    rcases hG.bld with ⟨h1, h2⟩ | ⟨h1, c, h2, h3, h4⟩
    · exact .inl ⟨h1, at_else (by decide) h2⟩
    · exact .inr ⟨h1, c, h2, at_else (by decide) h3, at_else (by omega) h4⟩
  have hll : (lineOf n x).length < 2000000 := by
    simp only [lineOf, List.length_append, List.length_cons, List.length_nil]; omega
  obtain ⟨r, hr, hv, hb, hk, hw, h1⟩ := w83 C.ft C.n156 C.c208 5 1 _ acc (lineOf n x) ⟨by decide, by rw [put_length]; exact hl4⟩ (by simp [lineOf]) (by omega) hB
  obtain ⟨rv, rh, rwr⟩ := r
  obtain rfl : rv = _ := hv
  have q83 := CT.run (fi := []) (ca := []) (ars := [.ptr 1 0, .str (lineOf n x)]) (C.n83 _ _) hr
  unfold lineOf at q83
  simp only at hb hk hw h1
  have hl := hk.len
  rw [put_length] at hl h1
  have k2 : rh.at 2 = some (.cells [.vs (strs l) l.length cap] 22) := (at_get (hk.at' 2 (by decide) (by decide))).trans (at_else (by decide) hG.box)
  have k3 : rh.at 3 = some .dfr := (at_get (hk.at' 3 (by decide) (by decide))).trans (at_else (by decide) hG.dfr)
  have k4 : rh.at 4 = some (.loop .busy none (peP a0 u6 u7 u8 u9) [(.p 8), (.p 9)] asgP bodP) := (at_get (hk.at' 4 (by decide) (by decide))).trans (at_put (by omega))
  refine WO.cly (s0 := ⟨[a0, .ptr 0 0, .str [], .int .i64 0, .int .i64 0, .ptr 1 0, u6, u7, .int .i64 n, .str x], [], hp, []⟩) hf ha hG.loop rfl ?_
  repeat' first | apply W.seq | apply SQn | apply W.region | apply WO.nil | (apply WO.pp; exact rfl; exact rfl)
  refine YAn hG.loop ?_
  repeat' first | (apply WO.cat; exact rfl; exact rfl; first | omega | (simp only [List.length_append, List.length_cons, List.length_nil]; omega)) | apply W.region | apply WO.nil | apply W.block | apply BQn | (apply WO.cll; exact rfl; exact rfl; first | exact q84 _) | (apply WO.ct; exact rfl; exact rfl; first | exact q83) | (apply WO.pl; exact rfl; exact rfl)
  refine ⟨_, _, _, _, k4, rfl, ?_⟩
  have h1' : Heap.at (rh.put 4 (some (.loop .ready none (peP a0 u6 u7 u8 u9) [(.p 8), (.p 9)] asgP bodP))) 1 = some (.cells [.ptr 1 0, .sl hp.length 0 (acc ++ lineOf n x).length 1 none] 146) := at_else (by decide) h1
  have ht : tight (rh.put 4 (some (.loop .ready none (peP a0 u6 u7 u8 u9) [(.p 8), (.p 9)] asgP bodP))) hp.length (4 :: (rwr ++ ([] ++ [4]))) = false := by
    simp only [tight, List.all_eq_false]
    refine ⟨1, by simp [hw], ?_⟩
    rw [h1']
    simp [Blk.top, topL, AV.top]
    omega
  rw [retA_loose' (n := hp.length) rfl rfl (show tight _ _ _ = false from ht)]
  refine h (rh.put 4 (some (.loop .ready none (peP a0 u6 u7 u8 u9) [(.p 8), (.p 9)] asgP bodP))) _ ⟨by rw [put_length]; omega, at_else (by decide) k2, at_else (by decide) k3, at_put (by omega), ?_⟩ (by rw [put_length]; omega) (by simp [hw]; omega) h1'
  rcases hb with ⟨b1, b2⟩ | ⟨b1, c, b2, b3, b4⟩
  · exact .inl ⟨b1, at_else (by decide) b2⟩
  · exact .inr ⟨b1, c, b2, at_else (by decide) b3, at_else (by omega) b4⟩
/-- What has been written hangs on a block that is new since n0. -/
def Wro (n0 : Nat) (hp : Heap) (acc : Str) (wr : List Nat) : Prop := n0 ≤ hp.length ∧ (acc ≠ [] → 1 ∈ wr ∧ ∃ c n, n0 ≤ c ∧ hp.at 1 = some (.cells [.ptr 1 0, .sl c 0 n 1 none] 146))
theorem packN_nil : ∀ k : Nat, packN k [] = []
  | 0 => rfl
  | _ + 1 => rfl
theorem loop155 (C : C17 M) (n0 : Nat) (l : List Str) (hl : l.length < 400) (hL : ∀ s ∈ l, s.length < 100000) (a0 u6 u7 u8 u9 : AV) {Q : Ex → StW → Prop} : ∀ (r i fr k : Nat) (acc : Str) (hp : Heap) (lo : List (Nat × AV)) (wr : List Nat), i + r = l.length + 1 → (i ≤ l.length → fr < i) → (i = l.length + 1 → fr = l.length) →
    (fr < l.length → runLen l[fr]! (l.drop fr) = (i - fr) + runLen l[fr]! (l.drop i)) → l.length ≤ fr + k → acc.length ≤ fr * 100100 → PackH l cap a0 u6 u7 u8 u9 hp acc → Wro n0 hp acc wr →
    (∀ hp' a2 a3 lo wr, PackH l cap a0 u6 u7 u8 u9 hp' (acc ++ packN k (l.drop fr)) → Wro n0 hp' (acc ++ packN k (l.drop fr)) wr → Q (.exit 0) ⟨⟨[.fn (.yield 4) [] [], .ptr 2 0, a2, a3], lo, hp', []⟩, wr⟩) →
    W M (.loop b155_0) ⟨⟨[.fn (.yield 4) [] [], .ptr 2 0, .int .i64 fr, .int .i64 i], lo, hp, []⟩, wr⟩ Q := by
  intro r
  induction r with
  | zero =>
    intro i fr k acc hp lo wr hi h1 h2 hrun hk ha hG hW hQ
    obtain rfl : fr = l.length := h2 (by omega)
    rw [List.drop_length, packN_nil, List.append_nil] at hQ
    have hb := hG.box
    refine W.loop ?_
    unfold b155_0
    repeat' first | (apply WO.ldb; exact rfl; exact hb; exact rfl) | apply W.seq | apply SQn | apply W.region | apply WO.nil | apply W.exit | apply SQe | apply LQe | (apply W.condF; exact rfl) | (apply WO.leq; exact rfl; exact rfl; all_goals first | (intro _; exfalso; omega) | intro _) | (apply WO.pl; exact rfl; exact rfl)
    exact hQ _ _ _ _ _ hG (by simpa using hW)
  | succ r ih =>
    intro i fr k acc hp lo wr hi h1 h2 hrun hk ha hG hW hQ
    have hb := hG.box
    have hfr := h1 (by omega)
    have hrun := hrun (by omega)
    have efr : ((fr : Int)).toNat = fr := by omega
    have ei : ((i : Int)).toNat = i := by omega
    by_cases hil : i < l.length
    · have er := runLen_drop (x := l[fr]!) (l := l) (k := i) hil
      by_cases he : l[i]! = l[fr]!
      · rw [if_pos he] at er
        refine W.loop ?_
        unfold b155_0
        repeat' first | (apply WO.ldb; exact rfl; exact hb; exact rfl) | apply W.seq | apply SQn | apply W.region | apply WO.nil | apply W.block | apply W.exit | apply W.skip | apply SQe | apply BQe | (apply W.drawro; exact rfl) | (apply W.condT; exact rfl) | (apply WO.gT; exact rfl) | (apply WO.lss; exact rfl; exact rfl; all_goals first | (intro _; exfalso; omega) | intro _) | (apply WO.leq; exact rfl; exact rfl; all_goals first | (intro _; exfalso; omega) | intro _) | (apply WO.pkT; exact rfl; exact rfl) | (apply WO.add; exact rfl; exact rfl; omega) | (apply WO.iav; exact rfl; exact rfl; omega) | (apply WO.lda; exact rfl; exact fun _ => rfl; (first | omega | (simp only [List.length_set]; omega) | (simp; omega)); decide; exact rfl; case ia => infer_instance) | (apply WO.seql; exact rfl; exact rfl; all_goals first | (intro h; exact absurd h (by decide)) | (intro h; exact absurd rfl h) | (intro h; contradiction) | intro _) | (apply WO.pl; exact rfl; exact rfl) | (apply WO.pp; exact rfl; exact rfl)
        refine LQn ?_
        exact ih (i + 1) fr k acc hp _ _ (by omega) (fun _ => by omega) (fun h => by omega) (fun _ => by rw [hrun, er]; omega) hk ha hG (by simpa using hW) hQ
      · rw [if_neg he] at er
        rw [er] at hrun
        obtain ⟨m, rfl⟩ : ∃ m, k = m + 1 := ⟨k - 1, by omega⟩
        have ep := packN_drop (k := m) (l := l) (i := fr) (by omega)
        rw [ep, hrun, Nat.add_zero, show fr + (i - fr) = i from by omega, ← lineOf] at hQ
        have hx : (l[fr]!).length < 100000 := hL _ (by rw [getElem!_pos l fr (by omega)]; exact List.getElem_mem (by omega))
        have hln : (lineOf (i - fr) l[fr]!).length ≤ 100100 := by
          have := decD_len (i - fr)
          simp only [lineOf, List.length_append, List.length_cons, List.length_nil]; omega
        have hac : (acc ++ lineOf (i - fr) l[fr]!).length ≤ i * 100100 := by
          rw [List.length_append]
          have : (fr + 1) * 100100 ≤ i * 100100 := Nat.mul_le_mul_right _ (by omega)
          have : (fr + 1) * 100100 = fr * 100100 + 100100 := Nat.succ_mul _ _
          omega
        refine W.loop ?_
        unfold b155_0
        repeat' first | (apply WO.ldb; exact rfl; exact hb; exact rfl) | (refine WO.packY C (x := l[fr]!) (n := i - fr) (acc := acc) rfl rfl (by omega) (by rw [efr]) hG (by omega) (by omega) (by omega) (fun hp' wr' hG' hlen hw1 hat1 => ?_)) | apply W.seq | apply SQn | apply W.region | apply WO.nil | apply W.block | apply W.skip | apply BQn | (apply W.drawro; exact rfl) | (apply W.condT; exact rfl) | (apply W.condF; exact rfl) | (apply WO.gT; exact rfl) | (apply WO.lss; exact rfl; exact rfl; all_goals first | (intro _; exfalso; omega) | intro _) | (apply WO.leq; exact rfl; exact rfl; all_goals first | (intro _; exfalso; omega) | intro _) | (apply WO.pkT; exact rfl; exact rfl) | (apply WO.add; exact rfl; exact rfl; omega) | (apply WO.sub; exact rfl; exact rfl; omega) | (apply WO.iav; exact rfl; exact rfl; omega) | (apply WO.lda; exact rfl; exact fun _ => rfl; (first | omega | (simp only [List.length_set]; omega) | (simp; omega)); decide; exact rfl; case ia => infer_instance) | (apply WO.seql; exact rfl; exact rfl; all_goals first | (intro h; exact absurd h (by decide)) | (intro h; exact absurd rfl h) | (intro h; contradiction) | intro _) | (apply WO.pl; exact rfl; exact rfl) | (apply WO.pp; exact rfl; exact rfl)
        refine LQn ?_
        refine ih (i + 1) i m _ hp' _ _ (by omega) (fun _ => by omega) (fun h => by omega) (fun h => ?_) (by omega) hac hG' ⟨Nat.le_trans hW.1 hlen, fun _ => ⟨by simpa using hw1, _, _, hW.1, hat1⟩⟩ (fun hp2 a2 a3 lo2 wr2 hG2 hW2 => hQ hp2 a2 a3 lo2 wr2 ?_ ?_)
        · rw [show i + 1 - i = 1 from by omega, runLen_drop (x := l[i]!) (k := i) hil, if_pos rfl, Nat.add_comm]
        · rw [← List.append_assoc]
          exact hG2
        · rw [← List.append_assoc]
          exact hW2
    · obtain rfl : i = l.length := by omega
      rw [List.drop_length, show runLen l[fr]! [] = 0 from rfl] at hrun
      obtain ⟨m, rfl⟩ : ∃ m, k = m + 1 := ⟨k - 1, by omega⟩
      have ep := packN_drop (k := m) (l := l) (i := fr) (by omega)
      rw [ep, hrun, Nat.add_zero, show fr + (l.length - fr) = l.length from by omega, ← lineOf] at hQ
      have hx : (l[fr]!).length < 100000 := hL _ (by rw [getElem!_pos l fr (by omega)]; exact List.getElem_mem (by omega))
      have hln : (lineOf (l.length - fr) l[fr]!).length ≤ 100100 := by
        have := decD_len (l.length - fr)
        simp only [lineOf, List.length_append, List.length_cons, List.length_nil]; omega
      have hac : (acc ++ lineOf (l.length - fr) l[fr]!).length ≤ l.length * 100100 := by
        rw [List.length_append]
        have : (fr + 1) * 100100 ≤ l.length * 100100 := Nat.mul_le_mul_right _ (by omega)
        have : (fr + 1) * 100100 = fr * 100100 + 100100 := Nat.succ_mul _ _
        omega
      refine W.loop ?_
      unfold b155_0
      repeat' first | (apply WO.ldb; exact rfl; exact hb; exact rfl) | (refine WO.packY C (x := l[fr]!) (n := l.length - fr) (acc := acc) rfl rfl (by omega) (by rw [efr]) hG (by omega) (by omega) (by omega) (fun hp' wr' hG' hlen hw1 hat1 => ?_)) | apply W.seq | apply SQn | apply W.region | apply WO.nil | apply W.block | apply W.skip | apply BQn | (apply W.drawro; exact rfl) | (apply W.condT; exact rfl) | (apply W.condF; exact rfl) | (apply WO.sT; exact rfl) | (apply WO.lss; exact rfl; exact rfl; all_goals first | (intro _; exfalso; omega) | intro _) | (apply WO.leq; exact rfl; exact rfl; all_goals first | (intro _; exfalso; omega) | intro _) | (apply WO.pkF; exact rfl; exact rfl) | (apply WO.add; exact rfl; exact rfl; omega) | (apply WO.sub; exact rfl; exact rfl; omega) | (apply WO.iav; exact rfl; exact rfl; omega) | (apply WO.lda; exact rfl; exact fun _ => rfl; (first | omega | (simp only [List.length_set]; omega) | (simp; omega)); decide; exact rfl; case ia => infer_instance) | (apply WO.pl; exact rfl; exact rfl) | (apply WO.pp; exact rfl; exact rfl)
      refine LQn ?_
      refine ih (l.length + 1) l.length m _ hp' _ _ (by omega) (fun _ => by omega) (fun h => by omega) (fun h => ?_) (by omega) hac hG' ⟨Nat.le_trans hW.1 hlen, fun _ => ⟨by simpa using hw1, _, _, hW.1, hat1⟩⟩ (fun hp2 a2 a3 lo2 wr2 hG2 hW2 => hQ hp2 a2 a3 lo2 wr2 ?_ ?_)
      · exact absurd h (Nat.lt_irrefl _)
      · rw [← List.append_assoc]
        exact hG2
      · rw [← List.append_assoc]
        exact hW2
theorem packL_ne {l : List Str} (h : l ≠ []) : packL l ≠ [] := by
  cases l with
  | nil => exact absurd rfl h
  | cons x l => simp [packL, packN]
theorem r155 (C : C17 M) (l : List Str) (hl : l.length < 400) (h0 : l ≠ []) (hL : ∀ s ∈ l, s.length < 100000) (a0 u6 u7 u8 u9 : AV) (hp : Heap) (hG : PackH l cap a0 u6 u7 u8 u9 hp []) : WRun M 155 [.fn (.yield 4) [] [], .ptr 2 0] hp fun r => PackH l cap a0 u6 u7 u8 u9 r.h (packL l) := by
  have hpos : 0 < l.length := List.length_pos_iff.2 h0
  refine WRun.of_W (by rw [C.ft]; exact ft155) (by simp) ?_
  unfold b155
  simp only [List.map_cons, List.map_nil, List.getElem?_cons_zero, List.getElem?_cons_succ, List.getElem?_nil, Option.getD_some, Option.getD_none]
  repeat' first | apply W.seq | apply SQn | apply W.region | apply WO.nil | apply W.block | (apply WO.pp; exact rfl; exact rfl)
  refine loop155 C hp.length l hl hL a0 u6 u7 u8 u9 l.length 1 0 l.length [] hp _ _ (by omega) (fun _ => by omega) (fun h => by omega) (fun _ => ?_) (by omega) (by simp) hG ⟨Nat.le_refl _, fun h => absurd rfl h⟩ (fun hp' a2 a3 lo wr hG' hW' => ?_)
  · rw [runLen_drop (x := l[0]!) (k := 0) hpos, if_pos rfl, Nat.add_comm]
  · rw [List.drop_zero, List.nil_append] at hG' hW'
    obtain ⟨hw1, c, n, hc, hat⟩ := hW'.2 (packL_ne h0)
    repeat' first | apply BQe
    refine ⟨.inl rfl, _, rfl, [], rfl, ?_⟩
    rw [retA_loose' (n := hp.length) rfl rfl ?_]
    · exact hG'
    · simp only [tight, List.all_eq_false]
      refine ⟨1, by simpa using hw1, ?_⟩
      have := hG.len
      simp only [hat]
      simp [Blk.top, topL, AV.top]
      omega
end Go.Ab.Ch5


/-
  Own work: Pack.
-/
namespace Go.Ab.Ch5
variable {M : Mach} {cap : Option Nat}

theorem run_dfr {ars : List AV} {f N : Nat} {pers : List Nat} {res : List IRes} {body : ICode} {v : AV} (hft : M.FT f = some ⟨N, pers, res, body⟩) (hN : ars.length ≤ N) (hv : v.top = 0)
    (h : W M body ⟨⟨pers.map (fun t => (ars[t]?).getD undefA), [], [], []⟩, []⟩ fun e s => (e = .normal ∨ e = .ret) ∧ ∃ d, s.s.dfs = [d] ∧ s.s.hp.at d = some .dfr ∧ ∃ vs, (∀ hp df, resultsA ⟨s.s.pe, s.s.lo, hp, df⟩ res = some vs) ∧ tupA vs = v) : Run M f ars [] ⟨v, [], []⟩ := by
  have := WRun.of_W (K := fun r => r = ⟨v, [], []⟩) hft hN (h.mono fun e s ⟨h1, d, h2, h3, vs, h4, h5⟩ => ⟨h1, ⟨{ s.s with hp := s.s.hp.put d none }, d :: s.wr⟩, ?_, vs, h4 _ _, ?_⟩)
  · obtain ⟨r, hr, rfl⟩ := this
    exact hr
  · rw [h2]
    simp only [takeDfs, h3]
  · rw [h5, retA_tight (n := ([] : Heap).length) (by rw [hv]; exact Nat.zero_le _) ?_]
    · simp
    · simp only [tight, List.all_eq_true]
      intro x hx
      split <;> simp

theorem w82 (hft : M.FT = FT) (v : AV) (l : List Str) (hv : v = .vs (strs l) l.length cap) (hp : Heap) : Run M 82 [v] hp ⟨.fn (.func 155) [] [.ptr hp.length 0], hp ++ [some (.cells [v] 22)], []⟩ := by
  subst hv
  refine run_of_WH (by rw [hft]; exact ft82) (by simp) ?_
  unfold b82
  simp only [List.map_cons, List.map_nil, List.getElem?_cons_zero, List.getElem?_cons_succ, List.getElem?_nil, Option.getD_some, Option.getD_none]
  repeat' first | apply W.seq | apply SQn | apply W.region | apply WO.nil | apply W.ret | (apply WO.hpv; exact rfl; exact rfl; exact rfl) | (apply WO.pl; exact rfl; exact rfl) | (apply WO.pp; exact rfl; exact rfl)
  refine ⟨.inr rfl, rfl, _, rfl, ?_⟩
  have ht : tight (hp ++ [some (.cells [.vs (strs l) l.length cap] 22)]) hp.length [] = true := rfl
  simp only [retA]
  rw [if_neg (by simp [tupA, AV.top, topL]; omega)]
  rfl

structure C17' (M : Mach) extends C17 M where
  c70 : ∀ rows (l : List Str) cap h, (∀ s ∈ l, s.length < 4611686018427387904) → l.length < 1000000 → M.ext 70 [.agg [.int .i64 rows, .vs (strs l) l.length cap]] h = some ⟨.int .i64 (imgE rows l), h, []⟩
  n82 : ∀ ars h, M.ext 82 ars h = none
  n85 : ∀ ars h, M.ext 85 ars h = none
  n86 : ∀ ars h, M.ext 86 ars h = none
def packR (rows : Int) (l : List Str) : Str × Int := if imgE rows l ≠ 0 then ([], imgE rows l) else if 4096 < (packL l).length then ([], 26) else (packL l, 0)

theorem w17e (C : C17' M) (rows : Int) (l : List Str) (hL : ∀ s ∈ l, s.length < 4611686018427387904) (hl : l.length < 1000000) (hE : imgE rows l ≠ 0) : Run M 17 [.agg [.int .i64 rows, .vs (strs l) l.length cap]] [] ⟨.tup [.str [], .int .i64 (imgE rows l)], [], []⟩ := by
  have q70 := fun h => C.c70 rows l cap h hL hl
  refine run_of_W (by rw [C.ft]; exact ft17) (by simp) ?_
  unfold b17
  simp only [List.map_cons, List.map_nil, List.getElem?_cons_zero, List.getElem?_cons_succ, List.getElem?_nil, Option.getD_some, Option.getD_none]
  repeat' first | apply W.seq | apply SQn | apply W.region | apply WO.nil | apply W.ret | apply SQr | (apply W.condT; exact rfl) | (apply WO.neq; exact rfl; exact rfl; all_goals first | (intro _; exfalso; omega) | intro _) | (apply WO.cll; exact rfl; exact rfl; first | exact q70 _) | (apply WO.hlv; exact rfl; exact rfl; exact rfl) | (apply WO.hpv; exact rfl; exact rfl; exact rfl) | (apply WO.pl; exact rfl; exact rfl) | (apply WO.pp; exact rfl; exact rfl)
  exact ⟨.inr rfl, rfl, _, rfl, rfl, rfl⟩
def t17 : ICode :=
   (.seq (.region [⟨(.p 5), .alloc 146 [.nilp, .nilsl], none⟩])
    (.seq (.seq (.region [⟨(.l 13), .faddr 1 (.p 1), none⟩,
        ⟨(.l 14), .load 1 false (.l 13), none⟩,
        ⟨(.l 15), .call (.c (.fn (.func 82) [] [])) [(.l 14)], none⟩])
      (.block 0
       (.rangeFunc false (.l 15) [(.p 8), (.p 9)]
        (.seq (.region [⟨(.p 6), .mv (.p 8), none⟩])
         (.region [⟨(.p 7), .mv (.p 9), none⟩]))
        (.block 1
         (.region [⟨(.l 18), .mv (.p 6), none⟩,
           ⟨(.l 19), .call (.c (.fn (.func 84) [] [])) [(.l 18)], none⟩,
           ⟨(.l 20), .bin .add (.l 19) (.c (.str [32])), none⟩,
           ⟨(.l 21), .mv (.p 7), none⟩,
           ⟨(.l 22), .bin .add (.l 20) (.l 21), none⟩,
           ⟨(.l 23), .bin .add (.l 22) (.c (.str [10])), none⟩,
           ⟨(.l 24), .call (.c (.fn (.func 83) [] [])) [(.p 5), (.l 23)], none⟩])))))
     (.seq (.seq (.region [⟨(.l 25), .call (.c (.fn (.func 85) [] [])) [(.p 5)], none⟩,
         ⟨(.l 26), .bin .gtr (.l 25) (.c (.int .i64 (4096))), none⟩])
       (.cond (.l 26)
        (.seq (.region [⟨(.p 2), .mv (.c (.str [])), none⟩,
           ⟨(.p 3), .mv (.c (.int .i64 (26))), none⟩])
         (.ret))
        (.skip)))
      (.seq (.region [⟨(.l 27), .call (.c (.fn (.func 86) [] [])) [(.p 5)], none⟩,
         ⟨(.p 2), .mv (.l 27), none⟩,
         ⟨(.p 3), .mv (.c (.int .i64 (0))), none⟩])
       (.ret)))))
theorem t17_W (C : C17' M) (rows : Int) (l : List Str) (hl : l.length < 400) (h0 : l ≠ []) (hL : ∀ s ∈ l, s.length < 100000) (a3 u6 u7 u8 u9 : AV) (lo : List (Nat × AV)) {Q : Ex → StW → Prop}
    (hQ : ∀ s : StW, s.s.dfs = [3] → s.s.hp.at 3 = some .dfr → s.s.pe[2]? = some (.str (if 4096 < (packL l).length then [] else packL l)) → s.s.pe[3]? = some (.int .i64 (if 4096 < (packL l).length then 26 else 0)) → Q .ret s) :
    W M t17 ⟨⟨[.agg [.int .i64 rows, .vs (strs l) l.length cap], .ptr 0 0, .str [], .int .i64 0, .int .i64 0, a3, u6, u7, u8, u9], lo, [some (.cells [.int .i64 rows, .vs (strs l) l.length cap] 24)], []⟩, []⟩ Q := by
  have q82 := fun h => CT.run (fi := []) (ca := []) (ars := [.vs (strs l) l.length cap]) (C.n82 _ _) (w82 (M := M) C.ft (.vs (strs l) l.length cap) l rfl h)
  unfold t17
  repeat' first | apply W.seq | apply SQn | apply W.region | apply WO.nil | apply W.block | (apply WO.ct; exact rfl; exact rfl; first | exact q82 _) | (apply WO.hlv; exact rfl; exact rfl; exact rfl) | (apply WO.hpv; exact rfl; exact rfl; exact rfl) | (apply WO.pl; exact rfl; exact rfl)
  refine W.rangeF (g := 155) (fi := []) (ca := [.ptr 2 0]) rfl ?_
  have hG : PackH l cap (.agg [.int .i64 rows, .vs (strs l) l.length cap]) u6 u7 u8 u9 ([some (.cells [.int .i64 rows, .vs (strs l) l.length cap] 24), some (.cells [.nilp, .nilsl] 146), some (.cells [.vs (strs l) l.length cap] 22)] ++ [some .dfr, some (.loop .ready none (peP (.agg [.int .i64 rows, .vs (strs l) l.length cap]) u6 u7 u8 u9) [(.p 8), (.p 9)] asgP bodP)]) [] :=
    ⟨by simp, rfl, rfl, rfl, .inl ⟨rfl, rfl⟩⟩
  obtain ⟨r, hr, hK⟩ := (r155 C.toC17 l hl h0 hL _ u6 u7 u8 u9 _ hG).out
  refine ⟨r, hr, _, _, _, _, _, _, hK.loop, by simp, ?_⟩
  have hne := packL_ne h0
  have hl5 := hK.len
  have hB : Bld 5 (r.h.put 4 (some (.loop .exhausted none (peP (.agg [.int .i64 rows, .vs (strs l) l.length cap]) u6 u7 u8 u9) [(.p 8), (.p 9)] asgP bodP))) 1 (packL l) := by
    rcases hK.bld with ⟨h1, h2⟩ | ⟨h1, c, h2, h3, h4⟩
    · exact .inl ⟨h1, at_else (by decide) h2⟩
    · exact .inr ⟨h1, c, h2, at_else (by decide) h3, at_else (by omega) h4⟩
  have q85 := CT.run (fi := []) (ca := []) (ars := [.ptr 1 0]) (C.n85 _ _) (w85 (M := M) C.ft 5 1 _ _ hB hne)
  have k3 : Heap.at (r.h.put 4 (some (.loop .exhausted none (peP (.agg [.int .i64 rows, .vs (strs l) l.length cap]) u6 u7 u8 u9) [(.p 8), (.p 9)] asgP bodP))) 3 = some .dfr := at_else (by decide) hK.dfr
  by_cases hbig : 4096 < (packL l).length
  · rw [if_pos hbig, if_pos hbig] at hQ
    repeat' first | apply W.seq | apply SQn | apply W.region | apply WO.nil | apply W.ret | apply SQr | apply BQn | (apply W.condT; exact rfl) | (apply WO.gtr; exact rfl; exact rfl; all_goals first | (intro _; exfalso; omega) | intro _) | (apply WO.ct; exact rfl; exact rfl; first | exact q85) | (apply WO.pp; exact rfl; exact rfl)
    exact hQ _ rfl k3 rfl rfl
  · rw [if_neg hbig, if_neg hbig] at hQ
    obtain ⟨r2, hr2, hv2, hk2⟩ := (w86 (M := M) C.ft 5 1 _ _ hB hne (by omega) ⟨by decide, by rw [put_length]; omega⟩).out
    obtain ⟨rv, rh, rwr⟩ := r2
    obtain rfl : rv = _ := hv2
    have q86 := CT.run (fi := []) (ca := []) (ars := [.ptr 1 0]) (C.n86 _ _) hr2
    repeat' first | apply W.seq | apply SQn | apply W.region | apply WO.nil | apply W.ret | apply W.skip | apply BQn | (apply W.condF; exact rfl) | (apply WO.gtr; exact rfl; exact rfl; all_goals first | (intro _; exfalso; omega) | intro _) | (apply WO.ct; exact rfl; exact rfl; first | exact q85 | exact q86) | (apply WO.pp; exact rfl; exact rfl)
    · exact hQ _ rfl ((at_get (hk2.at' 3 (by decide) (by decide))).trans k3) rfl rfl
theorem colsE_all {rows : Int} : ∀ {l : List Str}, colsE rows l = 0 → ∀ s ∈ l, (s.length : Int) = rows ∧ s.all pixB = true
  | [], _, s, hs => by cases hs
  | x :: l, h, s, hs => by
    rw [colsE] at h
    split at h
    · rename_i h'; exact absurd h h'
    · rename_i h'
      rcases List.mem_cons.1 hs with rfl | hs
      · unfold colE at h'
        split at h'
        · exact absurd (by decide) h'
        · rename_i hl
          split at h'
          · rename_i ha; exact ⟨by omega, ha⟩
          · exact absurd (by decide) h'
      · exact colsE_all h s hs
theorem imgE_all {rows : Int} {l : List Str} (hE : imgE rows l = 0) : (1 ≤ rows ∧ rows ≤ 64) ∧ ∀ s ∈ l, (s.length : Int) = rows ∧ s.all pixB = true := by
  unfold imgE at hE
  split at hE
  · rename_i h; exact absurd hE h
  · rename_i h
    refine ⟨?_, colsE_all hE⟩
    unfold headE outI at h
    split at h
    · exact absurd (by decide) h
    · rename_i h'
      simp at h'
      omega
theorem w17 (C : C17' M) (rows : Int) (l : List Str) (hL : ∀ s ∈ l, s.length < 4611686018427387904) (hl : l.length < 1000000) (hS : imgE rows l = 0 → l.length < 400) : Run M 17 [.agg [.int .i64 rows, .vs (strs l) l.length cap]] [] ⟨.tup [.str (packR rows l).1, .int .i64 (packR rows l).2], [], []⟩ := by
  by_cases hE : imgE rows l ≠ 0
  · rw [packR, if_pos hE]
    exact w17e C rows l hL hl hE
  · have hE : imgE rows l = 0 := by omega
    have q70 := fun h => C.c70 rows l cap h hL hl
    rw [hE] at q70
    refine run_dfr (by rw [C.ft]; exact ft17) (by simp) rfl ?_
    unfold b17
    simp only [List.map_cons, List.map_nil, List.getElem?_cons_zero, List.getElem?_cons_succ, List.getElem?_nil, Option.getD_some, Option.getD_none]
    repeat' first | (refine t17_W C rows l (hS hE) (imgE_ne hE) ?_ _ _ _ _ _ _ ?_) | apply W.seq | apply SQn | apply W.region | apply WO.nil | apply W.skip | (apply W.condF; exact rfl) | (apply WO.neq; exact rfl; exact rfl; all_goals first | (intro _; exfalso; omega) | intro _) | (apply WO.cll; exact rfl; exact rfl; first | exact q70 _) | (apply WO.hlv; exact rfl; exact rfl; exact rfl) | (apply WO.hpv; exact rfl; exact rfl; exact rfl) | (apply WO.pl; exact rfl; exact rfl) | (apply WO.pp; exact rfl; exact rfl)
    · intro s hs
      have := (imgE_all hE).2 s hs
      have := (imgE_all hE).1
      omega
    · intro s h1 h2 h3 h4
      refine ⟨.inr rfl, 3, h1, h2, [.str (packR rows l).1, .int .i64 (packR rows l).2], fun hp df => ?_, rfl⟩
      have e : packR rows l = if 4096 < (packL l).length then ([], 26) else (packL l, 0) := by rw [packR, if_neg (by omega)]
      rw [e]
      simp only [resultsA, St.opd, h3, h4]
      split <;> rfl
end Go.Ab.Ch5


/-
  Own work: a line of a packed image is read.
-/
namespace Go.Ab.Ch5
variable {M : Mach} {cap : Option Nat}

def t93_1 : ICode :=
   (.seq (.draw [(⟨(.l 81), .mv (.p 0), none⟩, []),
           (⟨(.l 82), .mv (.p 0), none⟩, [0]),
           (⟨(.l 83), .nilck (.l 82), none⟩, [0]),
           (⟨(.l 84), .faddr 0 (.l 83), none⟩, [0]),
           (⟨(.l 85), .load 1 false (.l 84), none⟩, [0]),
           (⟨(.l 86), .mv (.p 4), none⟩, [0, 1, 2, 3, 4]),
           (⟨(.l 87), .bslice 9 1 1 [.str []] [(0, 1, (.l 86))], none⟩, [0, 1, 2, 3, 4]),
           (⟨(.l 88), .mv (.p 6), none⟩, [0, 1, 2, 3, 4, 5, 6]),
           (⟨(.l 89), .call (.c (.fn (.func 150) [] [])) [(.l 87), (.l 88)], none⟩, [0, 1, 2, 3, 4]),
           (⟨(.l 90), .append 9 1 16 (.l 85) (.l 89), none⟩, [0]),
           (⟨(.l 91), .nilck (.l 81), none⟩, []),
           (⟨(.l 92), .faddr 0 (.l 91), none⟩, []),
           (⟨.no, .store 1 (.l 92) (.l 90), none⟩, [])])
         (.seq (.region [⟨(.p 2), .mv (.c (.int .i64 (0))), none⟩])
          (.ret)))
def t93 : ICode :=
   (.seq (.seq (.draw [(⟨(.l 52), .mv (.p 8), none⟩, []),
           (⟨(.l 53), .un .not (.l 52), none⟩, []),
           (⟨(.l 54), .call (.c (.fn (.func 91) [] [])) [(.l 53), (.c (.int .i64 (25)))], none⟩, []),
           (⟨(.l 55), .mv (.p 6), none⟩, [0, 1, 2]),
           (⟨(.l 56), .bin .eql (.l 55) (.c (.int .i64 (0))), none⟩, [0, 1, 2]),
           (⟨(.l 57), .call (.c (.fn (.func 91) [] [])) [(.l 56), (.c (.int .i64 (3)))], none⟩, []),
           (⟨(.l 58), .mv (.p 0), none⟩, [0, 1, 2, 3, 4, 5]),
           (⟨(.l 59), .nilck (.l 58), none⟩, [0, 1, 2, 3, 4, 5]),
           (⟨(.l 60), .faddr 0 (.l 59), none⟩, [0, 1, 2, 3, 4, 5]),
           (⟨(.l 61), .load 1 false (.l 60), none⟩, [0, 1, 2, 3, 4, 5]),
           (⟨(.l 62), .len .sl (.l 61), none⟩, [0, 1, 2, 3, 4, 5]),
           (⟨(.l 63), .mv (.p 6), none⟩, [0, 1, 2, 3, 4, 5, 6, 7, 8, 9, 10]),
           (⟨(.l 64), .bin .add (.l 62) (.l 63), none⟩, [0, 1, 2, 3, 4, 5]),
           (⟨(.l 65), .bin .gtr (.l 64) (.c (.int .i64 (4096))), none⟩, [0, 1, 2, 3, 4, 5]),
           (⟨(.l 66), .call (.c (.fn (.func 91) [] [])) [(.l 65), (.c (.int .i64 (5)))], none⟩, []),
           (⟨(.l 67), .mv (.p 4), none⟩, [0, 1, 2, 3, 4, 5, 6, 7, 8, 9, 10, 11, 12, 13, 14]),
           (⟨(.l 68), .len .str (.l 67), none⟩, [0, 1, 2, 3, 4, 5, 6, 7, 8, 9, 10, 11, 12, 13, 14]),
           (⟨(.l 69), .mv (.p 9), none⟩, [0, 1, 2, 3, 4, 5, 6, 7, 8, 9, 10, 11, 12, 13, 14, 15, 16]),
           (⟨(.l 70), .bin .neq (.l 68) (.l 69), none⟩, [0, 1, 2, 3, 4, 5, 6, 7, 8, 9, 10, 11, 12, 13, 14]),
           (⟨(.l 71), .call (.c (.fn (.func 91) [] [])) [(.l 70), (.c (.int .i64 (2)))], none⟩, []),
           (⟨(.l 72), .mv (.p 4), none⟩, [0, 1, 2, 3, 4, 5, 6, 7, 8, 9, 10, 11, 12, 13, 14, 15, 16, 17, 18, 19]),
           (⟨(.l 73), .call (.c (.fn (.func 153) [] [])) [(.l 72)], none⟩, []),
           (⟨(.l 74), .un .not (.l 73), none⟩, []),
           (⟨(.l 75), .call (.c (.fn (.func 91) [] [])) [(.l 74), (.c (.int .i64 (1)))], none⟩, []),
           (⟨(.l 76), .bslice 28 5 1 [.int .i64 (0)] [(0, 1, (.l 54)), (1, 1, (.l 57)), (2, 1, (.l 66)), (3, 1, (.l 71)), (4, 1, (.l 75))], none⟩, []),
           (⟨(.l 77), .call (.c (.fn (.func 90) [] [])) [(.l 76)], none⟩, []),
           (⟨(.p 10), .mv (.l 77), none⟩, [])])
         (.seq (.region [⟨(.l 78), .mv (.p 10), none⟩,
            ⟨(.l 79), .bin .neq (.l 78) (.c (.int .i64 (0))), none⟩])
          (.cond (.l 79)
           (.seq (.region [⟨(.l 80), .mv (.p 10), none⟩,
              ⟨(.p 2), .mv (.l 80), none⟩])
            (.ret))
           (.skip))))
        (.seq (.draw [(⟨(.l 81), .mv (.p 0), none⟩, []),
           (⟨(.l 82), .mv (.p 0), none⟩, [0]),
           (⟨(.l 83), .nilck (.l 82), none⟩, [0]),
           (⟨(.l 84), .faddr 0 (.l 83), none⟩, [0]),
           (⟨(.l 85), .load 1 false (.l 84), none⟩, [0]),
           (⟨(.l 86), .mv (.p 4), none⟩, [0, 1, 2, 3, 4]),
           (⟨(.l 87), .bslice 9 1 1 [.str []] [(0, 1, (.l 86))], none⟩, [0, 1, 2, 3, 4]),
           (⟨(.l 88), .mv (.p 6), none⟩, [0, 1, 2, 3, 4, 5, 6]),
           (⟨(.l 89), .call (.c (.fn (.func 150) [] [])) [(.l 87), (.l 88)], none⟩, [0, 1, 2, 3, 4]),
           (⟨(.l 90), .append 9 1 16 (.l 85) (.l 89), none⟩, [0]),
           (⟨(.l 91), .nilck (.l 81), none⟩, []),
           (⟨(.l 92), .faddr 0 (.l 91), none⟩, []),
           (⟨.no, .store 1 (.l 92) (.l 90), none⟩, [])])
         (.seq (.region [⟨(.p 2), .mv (.c (.int .i64 (0))), none⟩])
          (.ret))))
def lnC (x : Str) : Str := (spl1 32 x).1
def lnX (x : Str) : Str := (spl1 32 x).2.getD []
def lnOk (x : Str) : Bool := intOk (lnC x) && decide (lnX x ≠ []) && !hasB 32 (lnX x)
def lnN (x : Str) : Nat := if intOk (lnC x) then dvF 0 (lnC x) else 0
def rowsOf (cols : List Str) (x : Str) : Nat := if cols = [] then x.length else (cols[0]!).length
def errOf (pl : Bool) (n k rows : Nat) (x : Str) : Int := if !pl then 25 else if n = 0 then 3 else if k + n > 4096 then 5 else colE rows x
def lineE (cols : List Str) (x : Str) : Int := errOf (lnOk x) (lnN x) cols.length (rowsOf cols (lnX x)) (lnX x)
theorem err_first (pl : Bool) (n k rows : Nat) (x : Str) : firstNZ [if (!pl) = true then 25 else 0, if decide ((n : Int) = 0) = true then 3 else 0, if decide ((k : Int) + (n : Int) > 4096) = true then 5 else 0, if decide (¬ (x.length : Int) = rows) = true then 2 else 0, if (!x.all pixB) = true then 1 else 0] = errOf pl n k rows x := by
  unfold errOf colE
  cases pl with
  | false => rfl
  | true =>
    by_cases h1 : n = 0
    · simp [firstNZ, h1]
    · by_cases h2 : k + n > 4096
      · have : (k : Int) + n > 4096 := by omega
        simp [firstNZ, h1, h2, this]
      · have : ¬ (k : Int) + n > 4096 := by omega
        by_cases h3 : (x.length : Int) = rows
        · rw [decide_eq_false (show ¬ (n : Int) = 0 by omega), decide_eq_false this, decide_eq_false (fun h => h h3), if_neg h1, if_neg h2, if_neg (show ¬ ((x.length : Int) ≠ rows) from fun h => h h3)]
          cases x.all pixB <;> rfl
        · simp [firstNZ, h1, h2, this, h3]
structure C93 (M : Mach) : Prop where
  ft : M.FT = FT
  c91 : ∀ t e h, M.ext 91 [.bool t, .int .i64 e] h = some ⟨.int .i64 (if t then e else 0), h, []⟩
  c90 : ∀ v l h, intsAt h v = some l → l.length < 4611686018427387904 → M.ext 90 [v] h = some ⟨.int .i64 (firstNZ l), h, []⟩
  c150 : ∀ H (s : Str) (t : Nat), 1 ≤ t → t ≤ 4096 → M.ext 150 [.sl H.length 0 1 1 (some 1), .int .i64 t] (H ++ [some (.cells [.str s] 9)]) = some ⟨.sl (H ++ [some (Blk.cells [.str s] 9)]).length 0 t 1 (some t), (H ++ [some (.cells [.str s] 9)]) ++ [some (.cells (strs (List.replicate t s)) 9)], []⟩
  c153 : ∀ (s : Str) h, s.length < 4611686018427387904 → M.ext 153 [.str s] h = some ⟨.bool (s.all pixB), h, []⟩
  c160 : ∀ (s : Str) h, s.length < 1000000 → M.ext 160 [.str s, .str [32]] h = some ⟨cutV 32 s, h, []⟩
  c161 : ∀ (s : Str) h, s.length < 1000000 → M.ext 161 [.str s] h = some ⟨intV s, h, []⟩
  c162 : ∀ (s : Str) h, M.ext 162 [.str s, .str [32]] h = some ⟨.bool (hasB 32 s), h, []⟩
/-- The columns that have been read, in the unpacker's cell. -/
structure ColB (N : Nat) (hp : Heap) (b : Nat) (cols : List Str) (o : AV) : Prop where
  cell : hp.at b = some (.cells [o] 164)
  out : OutW hp o cols
  new : ∀ c n, o = .sl c 0 n 1 none → N ≤ c
abbrev rdK (N b : Nat) (hp : Heap) (cols : List Str) (x : Str) (E : Int) (r : HR) : Prop :=
  r.v = .int .i64 E ∧ (E ≠ 0 → r.h = hp ∧ r.wr = []) ∧ (E = 0 → (∃ o, ColB N r.h b (cols ++ List.replicate (lnN x) (lnX x)) o) ∧ Kept N b hp r.h r.wr)
theorem OutW.olds {hp : Heap} {J : Heap} {o : AV} {l : List Str} (h : OutW hp o l) : OutW (hp ++ J) o l := by
  rcases h with h | ⟨c, h1, h2, h3⟩
  · exact .inl h
  · refine .inr ⟨c, h1, h2, ?_⟩
    have hl := at_lt h3
    simp only [Heap.at, List.getElem?_append_left hl]
    exact h3
theorem at_olds {hp J : Heap} {b : Nat} {x : Blk} (h : hp.at b = some x) : Heap.at (hp ++ J) b = some x := by
  have hl := at_lt h
  simp only [Heap.at, List.getElem?_append_left hl]
  exact h
theorem OutW.pushK {t : Nat} {X : List Str} {l : List IOper} {pe : List AV} {lo : List (Nat × AV)} {K : Heap} {df wr : List Nat} {a b : IOpd} {o bv : AV} {acc : List Str} {Q : StW → Prop} (h : OutW K o acc) (ha : (St.mk pe lo K df).opd a = some o) (hb : (St.mk pe lo K df).opd b = some bv) (hs : sliceCells K bv = some (strs X, X.length)) (hX : 0 < X.length)
    (hn : acc.length + X.length < 1000000) (hQ : ∀ (H : Heap) (w' : List Nat), H.length = K.length + 1 → H.at K.length = some (.cells (strs (acc ++ X)) 9) → (∀ k, (∀ c n, o = .sl c 0 n 1 none → k ≠ c) → k < K.length → H[k]? = K[k]?) → (∀ z ∈ w', z ∈ wr ∨ ∃ c n, o = .sl c 0 n 1 none ∧ z = c) → WO M l ⟨⟨pe, (t, .sl K.length 0 (acc ++ X).length 1 none) :: lo, H, df⟩, w'⟩ Q) : WO M (⟨.l t, .append 9 1 16 a b, none⟩ :: l) ⟨⟨pe, lo, K, df⟩, wr⟩ Q := by
  have hc : (strs X).length = X.length * 1 ∧ 0 < 16 ∧ (strs X).all oneA = true := ⟨by rw [strs_len, Nat.mul_one], by decide, strs_one X⟩
  rw [List.length_append] at hQ
  rcases h with ⟨rfl, rfl⟩ | ⟨c, _, rfl, hat⟩
  · have e : ([] : List Str).length + X.length = X.length := by simp
    rw [e] at hQ
    refine WO.apn ha hb hs hc ⟨hX, by unfold roomLimit; simp at hn; omega⟩ (hQ _ _ (by simp) (by rw [List.nil_append]; exact at_new) (fun k _ hk => by rw [List.getElem?_append_left hk]) (fun z hz => .inl (by simpa using hz)))
  · refine WO.apo ha hb hs hc ⟨hX, by unfold roomLimit; omega⟩ hat (by rw [strs_len]; omega) (hQ _ _ (by simp [put_length]) ?_ (fun k hk hkl => ?_) (fun z hz => ?_))
    · have e : (K.put c none).length = K.length := put_length
      rw [strs_append, List.drop_zero, ← e]
      exact at_new
    · rw [List.getElem?_append_left (by rw [put_length]; exact hkl), put_get (hk c _ rfl)]
    · rcases List.mem_cons.1 hz with rfl | hz
      · exact .inr ⟨_, _, rfl, rfl⟩
      · exact .inl (by simpa using hz)
theorem t93_1_W (C : C93 M) (N b : Nat) (hp : Heap) (J : Option Blk) (cols : List Str) (x : Str) (o : AV) (hN : b < N ∧ N ≤ hp.length) (hB : ColB N hp b cols o) (n : Nat) (hn : 1 ≤ n ∧ cols.length + n ≤ 4096) (a1 a2 p3 p5 p7 p8 p9 p10 : AV) (lo : List (Nat × AV)) (R : HR → Prop)
    (hO : ∀ r o', r.v = .int .i64 0 → ColB N r.h b (cols ++ List.replicate n x) o' → Kept N b hp r.h r.wr → R r) :
    W M t93_1 ⟨⟨[.ptr b 0, a1, a2, p3, .str x, p5, .int .i64 n, p7, p8, p9, p10], lo, hp ++ [J], []⟩, []⟩ fun e s => (e = .normal ∨ e = .ret) ∧ ∃ s', takeDfs s.s.dfs s = some s' ∧ ∃ vs, resultsA s'.s [.var (.p 2)] = some vs ∧ R (retA (tupA vs) hp.length s') := by
  have hcell : Heap.at (hp ++ [J]) b = some (.cells [o] 164) := at_olds hB.cell
  have q150 := C.c150 (hp ++ [J]) x n hn.1 (by omega)
  have hout : OutW (hp ++ [J] ++ [some (.cells [.str x] 9)] ++ [some (Blk.cells (strs (List.replicate n x)) 9)]) o cols := OutW.olds (OutW.olds (OutW.olds hB.out))
  have hcell3 : Heap.at (hp ++ [J] ++ [some (.cells [.str x] 9)] ++ [some (Blk.cells (strs (List.replicate n x)) 9)]) b = some (.cells [o] 164) := at_olds (at_olds hcell)
  have hs : sliceCells (hp ++ [J] ++ [some (.cells [.str x] 9)] ++ [some (Blk.cells (strs (List.replicate n x)) 9)]) (.sl (hp ++ [J] ++ [some (Blk.cells [.str x] 9)]).length 0 n 1 (some n)) = some (strs (List.replicate n x), (List.replicate n x).length) := by
    have e : half n n x = List.replicate n x := by simp [half]
    have := half_cells (t := n) (k := n) (s := x) (c := n) (b := (hp ++ [J] ++ [some (Blk.cells [.str x] 9)]).length) (H := hp ++ [J] ++ [some (.cells [.str x] 9)] ++ [some (Blk.cells (strs (List.replicate n x)) 9)]) (by rw [e]; exact at_new)
    exact this
  unfold t93_1
  repeat' first | (apply WO.ldb; exact rfl; exact hcell; exact rfl) | (apply WD.appU; exact rfl; exact rfl; exact rfl; intro _) | (refine OutW.pushK (X := List.replicate n x) hout rfl rfl hs (by simp; omega) (by simp; omega) (fun H w' g1 g2 g3 g4 => ?_)) | apply W.seq | apply WO.nil | apply W.draw | (apply WD.pure1; exact rfl) | (apply WD.load1; exact rfl; exact rfl; exact rfl) | (apply WD.store1; exact rfl; exact rfl; exact rfl) | (apply WD.new1; exact rfl) | (apply WD.cl1; exact rfl; exact rfl; exact rfl; exact q150) | (apply WO.hlv; exact rfl; exact rfl; exact rfl) | (apply WO.pl; exact rfl; exact rfl)
  have hKl : (hp ++ [J] ++ [some (Blk.cells (overwrite (repeatZero [.str []] 1) 0 [.str x]) 9)] ++ [some (Blk.cells (strs (List.replicate n x)) 9)]).length = hp.length + 3 := by simp
  have hKg : ∀ a, a < hp.length → (hp ++ [J] ++ [some (Blk.cells (overwrite (repeatZero [.str []] 1) 0 [.str x]) 9)] ++ [some (Blk.cells (strs (List.replicate n x)) 9)])[a]? = hp[a]? := fun a ha => by
    rw [List.append_assoc, List.append_assoc, List.getElem?_append_left ha]
  have hKb : Heap.at (hp ++ [J] ++ [some (Blk.cells (overwrite (repeatZero [.str []] 1) 0 [.str x]) 9)] ++ [some (Blk.cells (strs (List.replicate n x)) 9)]) b = some (.cells [o] 164) := hcell3
  generalize (hp ++ [J] ++ [some (Blk.cells (overwrite (repeatZero [.str []] 1) 0 [.str x]) 9)] ++ [some (Blk.cells (strs (List.replicate n x)) 9)]) = K at g1 g2 g3 hKl hKg hKb ⊢
  have hH : H.at b = some (.cells [o] 164) := (at_get (g3 b (fun c n e => by have := hB.new c n e; omega) (by omega))).trans hKb
  refine WO.stj (c' := [.sl K.length 0 (cols ++ List.replicate n x).length 1 none]) rfl rfl hH ⟨rfl, Nat.le_refl _, rfl⟩ rfl ?_
  have hbl : b < H.length := by omega
  have hat := at_put (h := H) (o := some (.cells [.sl K.length 0 (cols ++ List.replicate n x).length 1 none] 164)) hbl
  repeat' first | apply W.seq | apply SQn | apply W.region | apply WO.nil | apply W.ret | apply WD.nil | (apply WO.pp; exact rfl; exact rfl)
  refine ⟨.inr rfl, _, rfl, [.int .i64 0], rfl, ?_⟩
  rw [retA_loose' (n := hp.length) rfl rfl ?_]
  · refine hO _ (.sl K.length 0 (cols ++ List.replicate n x).length 1 none) rfl ⟨hat, .inr ⟨K.length, ?_, rfl, ?_⟩, fun c n e => ?_⟩ ⟨?_, fun a h1 h2 => ?_, fun z hz => ?_⟩
    · intro e
      have := congrArg List.length e
      simp at this
      omega
    · exact at_else (by omega) g2
    · cases e; omega
    · rw [put_length]; omega
    · rw [put_get h2, g3 a (fun c n e => by have := hB.new c n e; omega) (by omega), hKg a (by omega)]
    · simp only [List.mem_filter, List.mem_cons, decide_eq_true_eq] at hz
      rcases hz.1 with rfl | hz1
      · exact .inl rfl
      · rcases g4 z hz1 with h | ⟨c, n, e, rfl⟩
        · simp at h
        · exact .inr (hB.new _ _ e)
  · simp only [tight, List.all_eq_false]
    refine ⟨b, by simp, ?_⟩
    rw [hat]
    simp [Blk.top, topL, AV.top]
    omega
theorem t93_W (C : C93 M) (N b : Nat) (hp : Heap) (cols : List Str) (x line : Str) (o : AV) (hN : b < N ∧ N ≤ hp.length) (hB : ColB N hp b cols o) (hx : x.length < 1000000) (hk : cols.length ≤ 4096) (pl : Bool) (n rows : Nat) (hn : n < 1000000000) (p3 p5 p7 p10 : AV) (lo : List (Nat × AV)) (R : HR → Prop)
    (hE : errOf pl n cols.length rows x ≠ 0 → R ⟨.int .i64 (errOf pl n cols.length rows x), hp, []⟩)
    (hO : errOf pl n cols.length rows x = 0 → ∀ r o', r.v = .int .i64 0 → ColB N r.h b (cols ++ List.replicate n x) o' → Kept N b hp r.h r.wr → R r) :
    W M t93 ⟨⟨[.ptr b 0, .str line, .int .i64 0, p3, .str x, p5, .int .i64 n, p7, .bool pl, .int .i64 rows, p10], lo, hp, []⟩, []⟩ fun e s => (e = .normal ∨ e = .ret) ∧ ∃ s', takeDfs s.s.dfs s = some s' ∧ ∃ vs, resultsA s'.s [.var (.p 2)] = some vs ∧ R (retA (tupA vs) hp.length s') := by
  have hlen : ∀ e, (Heap.at (hp ++ [some (.cells (ints e) 28)]) hp.length) = some (.cells (ints e) 28) := fun e => at_new
  have q90 := C.c90 (.sl hp.length 0 5 1 (some 5)) _ _ (ints_at' (hlen [if (!pl) = true then 25 else 0, if decide ((n : Int) = 0) = true then 3 else 0, if decide ((cols.length : Int) + (n : Int) > 4096) = true then 5 else 0, if decide (¬ (x.length : Int) = rows) = true then 2 else 0, if (!x.all pixB) = true then 1 else 0]) rfl) (by simp)
  rw [err_first] at q90
  have q153 := fun h => C.c153 x h (by omega)
  have q91 := C.c91
  have hcell := hB.cell
  have hnk : errOf pl n cols.length rows x = 0 → 1 ≤ n ∧ cols.length + n ≤ 4096 := fun h => by
    unfold errOf at h
    split at h
    · exact absurd h (by decide)
    · split at h
      · exact absurd h (by decide)
      · split at h
        · exact absurd h (by decide)
        · omega
  generalize hEE : errOf pl n cols.length rows x = E at q90 hE hO hnk
  have hend : ∀ (s : StW) (J : Option Blk), E ≠ 0 → s.s.dfs = [] → s.s.hp = hp ++ [J] → s.wr = [] → s.s.pe[2]? = some (.int .i64 E) → ∃ s', takeDfs s.s.dfs s = some s' ∧ ∃ vs, resultsA s'.s [.var (.p 2)] = some vs ∧ R (retA (tupA vs) hp.length s') := fun s J h0 h1 h2 h3 h4 => by
    refine ⟨s, by rw [h1]; rfl, [.int .i64 E], by simp only [resultsA, St.opd, h4], ?_⟩
    rw [ret_dropT h2 (by rw [h3]; intro x hx; cases hx) (Nat.zero_le _)]
    exact hE h0
  unfold t93
  rcases hB.out with ⟨h1, h2⟩ | ⟨c, h1, h2, h3⟩
  · subst h2
    subst h1
    have hz : ([] : List Str).length = 0 := rfl
    repeat' first | (refine t93_1_W C N b hp _ _ x _ hN hB n (hnk (by rename_i h; simpa using h)) _ _ _ _ _ _ _ _ _ R ?_) | (apply WO.ldb; exact rfl; exact hcell; exact rfl) | (apply WO.eqlD; exact rfl; exact rfl) | (apply WO.gtrD; exact rfl; exact rfl) | (apply WO.neqD; exact rfl; exact rfl) | apply W.seq | apply SQn | apply W.region | apply WO.nil | apply W.ret | apply W.skip | apply SQr | apply W.draw | apply WD.nil | (apply WD.pure1; exact rfl) | (apply WD.load1; exact rfl; exact rfl; exact rfl) | (apply WD.new1; exact rfl) | (apply W.cond; exact rfl; all_goals intro _) | (apply WO.add; exact rfl; exact rfl; omega) | (apply WD.cl0; exact rfl; exact rfl; exact rfl; first | exact q91 _ _ _ | exact q153 _ | exact q90) | (apply WO.hlv; exact rfl; exact rfl; exact rfl) | (apply WO.pl; exact rfl; exact rfl) | (apply WO.pp; exact rfl; exact rfl)
    · rename_i h
      exact ⟨.inr rfl, hend _ _ (by simpa using h) rfl rfl rfl rfl⟩
    · rename_i h
      exact hO (by simpa using h)
  · subst h2
    repeat' first | (refine t93_1_W C N b hp _ _ x _ hN hB n (hnk (by rename_i h; simpa using h)) _ _ _ _ _ _ _ _ _ R ?_) | (apply WO.ldb; exact rfl; exact hcell; exact rfl) | (apply WO.eqlD; exact rfl; exact rfl) | (apply WO.gtrD; exact rfl; exact rfl) | (apply WO.neqD; exact rfl; exact rfl) | apply W.seq | apply SQn | apply W.region | apply WO.nil | apply W.ret | apply W.skip | apply SQr | apply W.draw | apply WD.nil | (apply WD.pure1; exact rfl) | (apply WD.load1; exact rfl; exact rfl; exact rfl) | (apply WD.new1; exact rfl) | (apply W.cond; exact rfl; all_goals intro _) | (apply WO.add; exact rfl; exact rfl; omega) | (apply WD.cl0; exact rfl; exact rfl; exact rfl; first | exact q91 _ _ _ | exact q153 _ | exact q90) | (apply WO.hlv; exact rfl; exact rfl; exact rfl) | (apply WO.pl; exact rfl; exact rfl) | (apply WO.pp; exact rfl; exact rfl)
    · rename_i h
      exact ⟨.inr rfl, hend _ _ (by simpa using h) rfl rfl rfl rfl⟩
    · rename_i h
      exact hO (by simpa using h)
end Go.Ab.Ch5

