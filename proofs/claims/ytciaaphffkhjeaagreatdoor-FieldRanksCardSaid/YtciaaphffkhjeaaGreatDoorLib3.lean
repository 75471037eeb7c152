/-
  Own work: the resolved code of some functions of chapter 6.
-/
import Derived.Test.YtciaaphffkhjeaaGreatDoorCh6Base
import Derived.Test.YtciaaphffkhjeaaGreatDoorLib2
import Derived.Test.YtciaaphffkhjeaaGreatDoorCh6Row
import Derived.IntWalk
namespace Go.Ab.Ch6
set_option maxRecDepth 1000000
def b9_0 : ICode := .seq (.seq (.region [⟨.l 7, .mv (.p 2), none⟩, ⟨.l 8, .mv (.p 0), none⟩, ⟨.l 9, .len .sl (.l 8), none⟩, ⟨.l 10, .bin .lss (.l 7) (.l 9), none⟩]) (.cond (.l 10) (.skip) (.exit 0))) (.seq (.block 1 (.seq (.region [⟨.l 13, .mv (.p 0), none⟩, ⟨.l 14, .mv (.p 2), none⟩, ⟨.l 15, .iaddr none 1 (.l 13) (.l 14), none⟩, ⟨.l 16, .load 1 false (.l 15), none⟩, ⟨.l 17, .len .str (.l 16), none⟩, ⟨.l 18, .bin .gtr (.l 17) (.c (.int .i64 (40))), none⟩]) (.cond (.l 18) (.seq (.region [⟨.p 1, .mv (.c (.bool false)), none⟩]) (.ret)) (.skip)))) (.region [⟨.l 11, .mv (.p 2), none⟩, ⟨.l 12, .bin .add (.l 11) (.c (.int .i64 (1))), none⟩, ⟨.p 2, .mv (.l 12), none⟩]))
def b9 : ICode := .seq (.region [⟨.p 1, .mv (.c (.bool false)), none⟩]) (.seq (.seq (.region [⟨.l 4, .mv (.p 0), none⟩, ⟨.l 5, .len .sl (.l 4), none⟩, ⟨.l 6, .bin .gtr (.l 5) (.c (.int .i64 (35))), none⟩]) (.cond (.l 6) (.seq (.region [⟨.p 1, .mv (.c (.bool false)), none⟩]) (.ret)) (.skip))) (.seq (.seq (.region [⟨.p 2, .mv (.c (.int .i64 (0))), none⟩]) (.block 0 (.loop b9_0))) (.seq (.region [⟨.p 1, .mv (.c (.bool true)), none⟩]) (.ret))))
theorem ft9 : FT 9 = some ⟨19, [0, 2, 3], [.var (.p 1)], b9⟩ := by kernel_rfl
def b11 : ICode := .seq (.region [⟨.p 1, .box 32 4 (.p 0), none⟩, ⟨.p 2, .mv (.c (.int .i64 (0))), none⟩]) (.seq (.seq (.draw [(⟨.l 4, .faddr 0 (.p 1), none⟩, []), (⟨.l 5, .load 1 false (.l 4), none⟩, []), (⟨.l 6, .call (.c (.fn (.func 62) [] [])) [(.l 5)], none⟩, []), (⟨.l 7, .faddr 1 (.p 1), none⟩, [0, 1, 2]), (⟨.l 8, .load 1 false (.l 7), none⟩, [0, 1, 2]), (⟨.l 9, .call (.c (.fn (.func 63) [] [])) [(.l 8), (.c (.int .i64 (1))), (.c (.int .i64 (6)))], none⟩, []), (⟨.l 10, .faddr 3 (.p 1), none⟩, [0, 1, 2, 3, 4, 5]), (⟨.l 11, .load 1 false (.l 10), none⟩, [0, 1, 2, 3, 4, 5]), (⟨.l 12, .faddr 1 (.p 1), none⟩, [0, 1, 2, 3, 4, 5, 6, 7]), (⟨.l 13, .load 1 false (.l 12), none⟩, [0, 1, 2, 3, 4, 5, 6, 7]), (⟨.l 14, .bin .sub (.c (.int .i64 (6))) (.l 13), none⟩, [0, 1, 2, 3, 4, 5, 6, 7]), (⟨.l 15, .call (.c (.fn (.func 63) [] [])) [(.l 11), (.c (.int .i64 (0))), (.l 14)], none⟩, []), (⟨.l 16, .bslice 30 3 1 [.int .i64 (0)] [(0, 1, (.l 6)), (1, 1, (.l 9)), (2, 1, (.l 15))], none⟩, []), (⟨.l 17, .call (.c (.fn (.func 61) [] [])) [(.l 16)], none⟩, []), (⟨.p 3, .mv (.l 17), none⟩, [])]) (.seq (.region [⟨.l 18, .mv (.p 3), none⟩, ⟨.l 19, .bin .neq (.l 18) (.c (.int .i64 (0))), none⟩]) (.cond (.l 19) (.seq (.region [⟨.l 20, .mv (.p 3), none⟩, ⟨.p 2, .mv (.l 20), none⟩]) (.ret)) (.skip)))) (.seq (.seq (.region [⟨.l 21, .faddr 3 (.p 1), none⟩, ⟨.l 22, .load 1 false (.l 21), none⟩, ⟨.l 23, .bin .eql (.l 22) (.c (.int .i64 (0))), none⟩]) (.cond (.l 23) (.seq (.region [⟨.l 24, .faddr 2 (.p 1), none⟩, ⟨.l 25, .load 1 false (.l 24), none⟩, ⟨.l 26, .bin .neq (.l 25) (.c (.int .i64 (0))), none⟩, ⟨.l 27, .call (.c (.fn (.func 64) [] [])) [(.l 26), (.c (.int .i64 (3)))], none⟩, ⟨.p 2, .mv (.l 27), none⟩]) (.ret)) (.skip))) (.seq (.region [⟨.l 28, .faddr 2 (.p 1), none⟩, ⟨.l 29, .load 1 false (.l 28), none⟩, ⟨.l 30, .call (.c (.fn (.func 63) [] [])) [(.l 29), (.c (.int .i64 (1))), (.c (.int .i64 (32)))], none⟩, ⟨.p 2, .mv (.l 30), none⟩]) (.ret))))
theorem ft11 : FT 11 = some ⟨31, [0, 1, 2, 3], [.var (.p 2)], b11⟩ := by kernel_rfl
def b12 : ICode := .seq (.region [⟨.p 1, .box 24 4 (.p 0), none⟩, ⟨.p 2, .mv (.c (.int .i64 (0))), none⟩]) (.seq (.region [⟨.l 4, .faddr 0 (.p 1), none⟩, ⟨.l 5, .load 1 false (.l 4), none⟩, ⟨.l 6, .call (.c (.fn (.func 65) [] [])) [(.l 5)], none⟩, ⟨.p 3, .mv (.l 6), none⟩]) (.seq (.seq (.region [⟨.l 7, .mv (.p 3), none⟩, ⟨.l 8, .bin .neq (.l 7) (.c (.int .i64 (0))), none⟩]) (.cond (.l 8) (.seq (.region [⟨.l 9, .mv (.p 3), none⟩, ⟨.p 2, .mv (.l 9), none⟩]) (.ret)) (.skip))) (.seq (.seq (.region [⟨.l 10, .faddr 1 (.p 1), none⟩, ⟨.l 11, .load 1 false (.l 10), none⟩, ⟨.l 12, .bin .lss (.l 11) (.c (.int .i64 (1))), none⟩, ⟨.l 13, .mv (.l 12), none⟩, ⟨.l 14, .faddr 1 (.p 1), some ((.l 13), false)⟩, ⟨.l 15, .load 1 false (.l 14), some ((.l 13), false)⟩, ⟨.l 16, .bin .gtr (.l 15) (.c (.int .i64 (6))), some ((.l 13), false)⟩, ⟨.l 17, .pick (.l 13) (.c (.bool true)) (.l 16), none⟩, ⟨.l 18, .mv (.l 17), none⟩, ⟨.l 19, .faddr 3 (.p 1), some ((.l 18), false)⟩, ⟨.l 20, .load 1 false (.l 19), some ((.l 18), false)⟩, ⟨.l 21, .bin .lss (.l 20) (.c (.int .i64 (0))), some ((.l 18), false)⟩, ⟨.l 22, .pick (.l 18) (.c (.bool true)) (.l 21), none⟩, ⟨.l 23, .mv (.l 22), none⟩, ⟨.l 24, .faddr 3 (.p 1), some ((.l 23), false)⟩, ⟨.l 25, .load 1 false (.l 24), some ((.l 23), false)⟩, ⟨.l 26, .faddr 1 (.p 1), some ((.l 23), false)⟩, ⟨.l 27, .load 1 false (.l 26), some ((.l 23), false)⟩, ⟨.l 28, .bin .sub (.c (.int .i64 (6))) (.l 27), some ((.l 23), false)⟩, ⟨.l 29, .bin .gtr (.l 25) (.l 28), some ((.l 23), false)⟩, ⟨.l 30, .pick (.l 23) (.c (.bool true)) (.l 29), none⟩]) (.cond (.l 30) (.seq (.region [⟨.p 2, .mv (.c (.int .i64 (3))), none⟩]) (.ret)) (.skip))) (.seq (.seq (.region [⟨.l 31, .faddr 3 (.p 1), none⟩, ⟨.l 32, .load 1 false (.l 31), none⟩, ⟨.l 33, .bin .gtr (.l 32) (.c (.int .i64 (0))), none⟩, ⟨.l 34, .mv (.l 33), none⟩, ⟨.l 35, .faddr 2 (.p 1), some ((.l 34), true)⟩, ⟨.l 36, .load 1 false (.l 35), some ((.l 34), true)⟩, ⟨.l 37, .bin .lss (.l 36) (.c (.int .i64 (1))), some ((.l 34), true)⟩, ⟨.l 38, .mv (.l 37), some ((.l 34), true)⟩, ⟨.l 39, .faddr 2 (.p 1), some ((.l 38), false)⟩, ⟨.l 40, .load 1 false (.l 39), some ((.l 38), false)⟩, ⟨.l 41, .bin .gtr (.l 40) (.c (.int .i64 (32))), some ((.l 38), false)⟩, ⟨.l 42, .pick (.l 38) (.c (.bool true)) (.l 41), some ((.l 34), true)⟩, ⟨.l 43, .pick (.l 34) (.l 42) (.c (.bool false)), none⟩, ⟨.l 44, .mv (.l 43), none⟩, ⟨.l 45, .faddr 3 (.p 1), some ((.l 44), false)⟩, ⟨.l 46, .load 1 false (.l 45), some ((.l 44), false)⟩, ⟨.l 47, .bin .eql (.l 46) (.c (.int .i64 (0))), some ((.l 44), false)⟩, ⟨.l 48, .mv (.l 47), some ((.l 44), false)⟩, ⟨.l 49, .faddr 2 (.p 1), some ((.l 48), true)⟩, ⟨.l 50, .load 1 false (.l 49), some ((.l 48), true)⟩, ⟨.l 51, .bin .neq (.l 50) (.c (.int .i64 (0))), some ((.l 48), true)⟩, ⟨.l 52, .pick (.l 48) (.l 51) (.c (.bool false)), some ((.l 44), false)⟩, ⟨.l 53, .pick (.l 44) (.c (.bool true)) (.l 52), none⟩]) (.cond (.l 53) (.seq (.region [⟨.p 2, .mv (.c (.int .i64 (3))), none⟩]) (.ret)) (.skip))) (.seq (.region [⟨.p 2, .mv (.c (.int .i64 (0))), none⟩]) (.ret))))))
theorem ft12 : FT 12 = some ⟨54, [0, 1, 2, 3], [.var (.p 2)], b12⟩ := by kernel_rfl
def b62_0 : ICode := .seq (.region [⟨.l 22, .bin .lss (.p 6) (.p 5), none⟩]) (.seq (.cond (.l 22) (.skip) (.exit 0)) (.seq (.block 1 (.seq (.region [⟨.l 23, .mv (.p 6), none⟩, ⟨.p 3, .mv (.l 23), none⟩]) (.seq (.region [⟨.l 24, .mv (.p 0), none⟩, ⟨.l 25, .mv (.p 3), none⟩, ⟨.l 26, .call (.c (.fn (.func 76) [] [])) [(.l 24), (.l 25)], none⟩, ⟨.p 4, .mv (.l 26), none⟩]) (.seq (.region [⟨.l 27, .mv (.p 4), none⟩, ⟨.l 28, .bin .neq (.l 27) (.c (.int .i64 (0))), none⟩]) (.cond (.l 28) (.seq (.region [⟨.l 29, .mv (.p 4), none⟩, ⟨.p 1, .mv (.l 29), none⟩]) (.ret)) (.skip)))))) (.region [⟨.l 30, .bin .add (.p 6) (.c (.int .i64 (1))), none⟩, ⟨.p 6, .mv (.l 30), none⟩])))
def b62 : ICode := .seq (.region [⟨.p 1, .mv (.c (.int .i64 (0))), none⟩]) (.seq (.seq (.region [⟨.l 6, .mv (.p 0), none⟩, ⟨.l 7, .len .sl (.l 6), none⟩, ⟨.l 8, .bin .eql (.l 7) (.c (.int .i64 (0))), none⟩, ⟨.l 9, .call (.c (.fn (.func 64) [] [])) [(.l 8), (.c (.int .i64 (12)))], none⟩, ⟨.l 10, .mv (.p 0), none⟩, ⟨.l 11, .len .sl (.l 10), none⟩, ⟨.l 12, .bin .gtr (.l 11) (.c (.int .i64 (32))), none⟩, ⟨.l 13, .call (.c (.fn (.func 64) [] [])) [(.l 12), (.c (.int .i64 (5)))], none⟩, ⟨.l 14, .bslice 30 2 1 [.int .i64 (0)] [(0, 1, (.l 9)), (1, 1, (.l 13))], none⟩, ⟨.l 15, .call (.c (.fn (.func 61) [] [])) [(.l 14)], none⟩, ⟨.p 2, .mv (.l 15), none⟩]) (.seq (.region [⟨.l 16, .mv (.p 2), none⟩, ⟨.l 17, .bin .neq (.l 16) (.c (.int .i64 (0))), none⟩]) (.cond (.l 17) (.seq (.region [⟨.l 18, .mv (.p 2), none⟩, ⟨.p 1, .mv (.l 18), none⟩]) (.ret)) (.skip)))) (.seq (.seq (.region [⟨.l 19, .mv (.p 0), none⟩, ⟨.p 5, .len .sl (.l 19), none⟩, ⟨.p 6, .mv (.c (.int .i64 (0))), none⟩]) (.block 0 (.loop b62_0))) (.seq (.region [⟨.p 1, .mv (.c (.int .i64 (0))), none⟩]) (.ret))))
theorem ft62 : FT 62 = some ⟨31, [0, 2, 3, 4, 5, 20, 21], [.var (.p 1)], b62⟩ := by kernel_rfl
def b76 : ICode := .seq (.region [⟨.p 2, .mv (.c (.int .i64 (0))), none⟩]) (.seq (.draw [(⟨.l 5, .mv (.p 0), none⟩, []), (⟨.l 6, .mv (.p 1), none⟩, [0]), (⟨.l 7, .iaddr none 1 (.l 5) (.l 6), none⟩, []), (⟨.l 8, .load 1 false (.l 7), none⟩, []), (⟨.l 9, .call (.c (.fn (.func 67) [] [])) [(.l 8)], none⟩, []), (⟨.l 10, .un .not (.l 9), none⟩, []), (⟨.l 11, .call (.c (.fn (.func 64) [] [])) [(.l 10), (.c (.int .i64 (8)))], none⟩, []), (⟨.l 12, .mv (.p 0), none⟩, [0, 1, 2, 3, 4, 5, 6]), (⟨.l 13, .mv (.p 1), none⟩, [0, 1, 2, 3, 4, 5, 6, 7]), (⟨.l 14, .slice .sl 1 (.l 12) none (some (.l 13)) none, none⟩, [0, 1, 2, 3, 4, 5, 6]), (⟨.l 15, .mv (.p 0), none⟩, [0, 1, 2, 3, 4, 5, 6, 7, 8, 9]), (⟨.l 16, .mv (.p 1), none⟩, [0, 1, 2, 3, 4, 5, 6, 7, 8, 9, 10]), (⟨.l 17, .iaddr none 1 (.l 15) (.l 16), none⟩, [0, 1, 2, 3, 4, 5, 6, 7, 8, 9]), (⟨.l 18, .load 1 false (.l 17), none⟩, [0, 1, 2, 3, 4, 5, 6, 7, 8, 9]), (⟨.l 19, .call (.c (.fn (.func 126) [] [])) [(.l 14), (.l 18)], none⟩, []), (⟨.l 20, .call (.c (.fn (.func 64) [] [])) [(.l 19), (.c (.int .i64 (9)))], none⟩, []), (⟨.l 21, .bslice 30 2 1 [.int .i64 (0)] [(0, 1, (.l 11)), (1, 1, (.l 20))], none⟩, []), (⟨.l 22, .call (.c (.fn (.func 61) [] [])) [(.l 21)], none⟩, []), (⟨.p 2, .mv (.l 22), none⟩, [])]) (.ret))
theorem ft76 : FT 76 = some ⟨23, [0, 1, 4], [.var (.p 2)], b76⟩ := by kernel_rfl
def b61_0 : ICode := .seq (.region [⟨.l 8, .bin .lss (.p 5) (.p 4), none⟩]) (.seq (.cond (.l 8) (.skip) (.exit 0)) (.seq (.block 1 (.seq (.region [⟨.l 9, .iaddr none 1 (.p 3) (.p 5), none⟩, ⟨.l 10, .load 1 false (.l 9), none⟩, ⟨.p 2, .mv (.l 10), none⟩]) (.seq (.region [⟨.l 11, .mv (.p 2), none⟩, ⟨.l 12, .bin .neq (.l 11) (.c (.int .i64 (0))), none⟩]) (.cond (.l 12) (.seq (.region [⟨.l 13, .mv (.p 2), none⟩, ⟨.p 1, .mv (.l 13), none⟩]) (.ret)) (.skip))))) (.region [⟨.l 14, .bin .add (.p 5) (.c (.int .i64 (1))), none⟩, ⟨.p 5, .mv (.l 14), none⟩])))
def b61 : ICode := .seq (.region [⟨.p 1, .mv (.c (.int .i64 (0))), none⟩]) (.seq (.seq (.region [⟨.p 3, .mv (.p 0), none⟩, ⟨.p 4, .len .sl (.p 3), none⟩, ⟨.p 5, .mv (.c (.int .i64 (0))), none⟩]) (.block 0 (.loop b61_0))) (.seq (.region [⟨.p 1, .mv (.c (.int .i64 (0))), none⟩]) (.ret)))
theorem ft61 : FT 61 = some ⟨15, [0, 2, 4, 5, 6, 7], [.var (.p 1)], b61⟩ := by kernel_rfl
def b64 : ICode := .seq (.region [⟨.p 2, .mv (.c (.int .i64 (0))), none⟩]) (.seq (.seq (.region [⟨.l 5, .mv (.p 0), none⟩]) (.cond (.l 5) (.seq (.region [⟨.l 6, .mv (.p 1), none⟩, ⟨.p 2, .mv (.l 6), none⟩]) (.ret)) (.skip))) (.seq (.region [⟨.p 2, .mv (.c (.int .i64 (0))), none⟩]) (.ret)))
theorem ft64 : FT 64 = some ⟨7, [0, 1, 4], [.var (.p 2)], b64⟩ := by kernel_rfl
def b63 : ICode := .seq (.region [⟨.p 3, .mv (.c (.int .i64 (0))), none⟩]) (.seq (.region [⟨.l 7, .mv (.p 0), none⟩, ⟨.l 8, .mv (.p 1), none⟩, ⟨.l 9, .bin .lss (.l 7) (.l 8), none⟩, ⟨.l 10, .mv (.l 9), none⟩, ⟨.l 11, .mv (.p 0), some ((.l 10), false)⟩, ⟨.l 12, .mv (.p 2), some ((.l 10), false)⟩, ⟨.l 13, .bin .gtr (.l 11) (.l 12), some ((.l 10), false)⟩, ⟨.l 14, .pick (.l 10) (.c (.bool true)) (.l 13), none⟩, ⟨.l 15, .call (.c (.fn (.func 64) [] [])) [(.l 14), (.c (.int .i64 (3)))], none⟩, ⟨.p 3, .mv (.l 15), none⟩]) (.ret))
theorem ft63 : FT 63 = some ⟨16, [0, 1, 2, 6], [.var (.p 3)], b63⟩ := by kernel_rfl
def b65_0 : ICode := .seq (.seq (.region [⟨.l 11, .mv (.p 2), none⟩, ⟨.l 12, .mv (.p 0), none⟩, ⟨.l 13, .len .sl (.l 12), none⟩, ⟨.l 14, .bin .lss (.l 11) (.l 13), none⟩]) (.cond (.l 14) (.skip) (.exit 0))) (.seq (.block 1 (.seq (.region [⟨.l 17, .mv (.p 0), none⟩, ⟨.l 18, .mv (.p 2), none⟩, ⟨.l 19, .call (.c (.fn (.func 73) [] [])) [(.l 17), (.l 18)], none⟩, ⟨.p 3, .mv (.l 19), none⟩]) (.seq (.region [⟨.l 20, .mv (.p 3), none⟩, ⟨.l 21, .bin .neq (.l 20) (.c (.int .i64 (0))), none⟩]) (.cond (.l 21) (.seq (.region [⟨.l 22, .mv (.p 3), none⟩, ⟨.p 1, .mv (.l 22), none⟩]) (.ret)) (.skip))))) (.region [⟨.l 15, .mv (.p 2), none⟩, ⟨.l 16, .bin .add (.l 15) (.c (.int .i64 (1))), none⟩, ⟨.p 2, .mv (.l 16), none⟩]))
def b65 : ICode := .seq (.region [⟨.p 1, .mv (.c (.int .i64 (0))), none⟩]) (.seq (.seq (.region [⟨.l 5, .mv (.p 0), none⟩, ⟨.l 6, .len .sl (.l 5), none⟩, ⟨.l 7, .bin .eql (.l 6) (.c (.int .i64 (0))), none⟩]) (.cond (.l 7) (.seq (.region [⟨.p 1, .mv (.c (.int .i64 (12))), none⟩]) (.ret)) (.skip))) (.seq (.seq (.region [⟨.l 8, .mv (.p 0), none⟩, ⟨.l 9, .len .sl (.l 8), none⟩, ⟨.l 10, .bin .gtr (.l 9) (.c (.int .i64 (32))), none⟩]) (.cond (.l 10) (.seq (.region [⟨.p 1, .mv (.c (.int .i64 (5))), none⟩]) (.ret)) (.skip))) (.seq (.seq (.region [⟨.p 2, .mv (.c (.int .i64 (0))), none⟩]) (.block 0 (.loop b65_0))) (.seq (.region [⟨.p 1, .mv (.c (.int .i64 (0))), none⟩]) (.ret)))))
theorem ft65 : FT 65 = some ⟨23, [0, 2, 3, 4], [.var (.p 1)], b65⟩ := by kernel_rfl
def b73_0 : ICode := .seq (.seq (.region [⟨.l 12, .mv (.p 3), none⟩, ⟨.l 13, .mv (.p 1), none⟩, ⟨.l 14, .bin .lss (.l 12) (.l 13), none⟩]) (.cond (.l 14) (.skip) (.exit 0))) (.seq (.block 1 (.seq (.draw [(⟨.l 17, .mv (.p 0), none⟩, []), (⟨.l 18, .mv (.p 3), none⟩, [0]), (⟨.l 19, .iaddr none 1 (.l 17) (.l 18), none⟩, []), (⟨.l 20, .load 1 false (.l 19), none⟩, []), (⟨.l 21, .mv (.p 0), none⟩, [0, 1, 2, 3]), (⟨.l 22, .mv (.p 1), none⟩, [0, 1, 2, 3, 4]), (⟨.l 23, .iaddr none 1 (.l 21) (.l 22), none⟩, [0, 1, 2, 3]), (⟨.l 24, .load 1 false (.l 23), none⟩, [0, 1, 2, 3]), (⟨.l 25, .bin .eql (.l 20) (.l 24), none⟩, [])]) (.cond (.l 25) (.seq (.region [⟨.p 2, .mv (.c (.int .i64 (9))), none⟩]) (.ret)) (.skip)))) (.region [⟨.l 15, .mv (.p 3), none⟩, ⟨.l 16, .bin .add (.l 15) (.c (.int .i64 (1))), none⟩, ⟨.p 3, .mv (.l 16), none⟩]))
def b73 : ICode := .seq (.region [⟨.p 2, .mv (.c (.int .i64 (0))), none⟩]) (.seq (.seq (.region [⟨.l 6, .mv (.p 0), none⟩, ⟨.l 7, .mv (.p 1), none⟩, ⟨.l 8, .iaddr none 1 (.l 6) (.l 7), none⟩, ⟨.l 9, .load 1 false (.l 8), none⟩, ⟨.l 10, .call (.c (.fn (.func 68) [] [])) [(.l 9)], none⟩, ⟨.l 11, .un .not (.l 10), none⟩]) (.cond (.l 11) (.seq (.region [⟨.p 2, .mv (.c (.int .i64 (8))), none⟩]) (.ret)) (.skip))) (.seq (.seq (.region [⟨.p 3, .mv (.c (.int .i64 (0))), none⟩]) (.block 0 (.loop b73_0))) (.seq (.region [⟨.p 2, .mv (.c (.int .i64 (0))), none⟩]) (.ret))))
theorem ft73 : FT 73 = some ⟨26, [0, 1, 4, 5], [.var (.p 2)], b73⟩ := by kernel_rfl
def b67_0 : ICode := .seq (.region [⟨.p 6, .next (.p 5), none⟩, ⟨.l 9, .extract 0 (.p 6), none⟩]) (.seq (.cond (.l 9) (.skip) (.exit 0)) (.block 1 (.seq (.region [⟨.l 10, .extract 1 (.p 6), none⟩, ⟨.l 11, .extract 2 (.p 6), none⟩, ⟨.p 2, .mv (.l 10), none⟩, ⟨.p 3, .mv (.l 11), none⟩]) (.seq (.region [⟨.l 12, .mv (.p 3), none⟩, ⟨.l 13, .bin .geq (.l 12) (.c (.int .i32 (97))), none⟩, ⟨.l 14, .mv (.l 13), none⟩, ⟨.l 15, .mv (.p 3), some ((.l 14), true)⟩, ⟨.l 16, .bin .leq (.l 15) (.c (.int .i32 (122))), some ((.l 14), true)⟩, ⟨.l 17, .pick (.l 14) (.l 16) (.c (.bool false)), none⟩, ⟨.l 18, .mv (.l 17), none⟩, ⟨.l 19, .mv (.p 3), some ((.l 18), false)⟩, ⟨.l 20, .bin .geq (.l 19) (.c (.int .i32 (65))), some ((.l 18), false)⟩, ⟨.l 21, .mv (.l 20), some ((.l 18), false)⟩, ⟨.l 22, .mv (.p 3), some ((.l 21), true)⟩, ⟨.l 23, .bin .leq (.l 22) (.c (.int .i32 (90))), some ((.l 21), true)⟩, ⟨.l 24, .pick (.l 21) (.l 23) (.c (.bool false)), some ((.l 18), false)⟩, ⟨.l 25, .pick (.l 18) (.c (.bool true)) (.l 24), none⟩, ⟨.p 4, .mv (.l 25), none⟩]) (.seq (.region [⟨.l 26, .mv (.p 4), none⟩, ⟨.l 27, .un .not (.l 26), none⟩, ⟨.l 28, .mv (.l 27), none⟩, ⟨.l 29, .mv (.p 2), some ((.l 28), true)⟩, ⟨.l 30, .bin .eql (.l 29) (.c (.int .i64 (0))), some ((.l 28), true)⟩, ⟨.l 31, .mv (.l 30), some ((.l 28), true)⟩, ⟨.l 32, .mv (.p 3), some ((.l 31), false)⟩, ⟨.l 33, .bin .neq (.l 32) (.c (.int .i32 (95))), some ((.l 31), false)⟩, ⟨.l 34, .mv (.l 33), some ((.l 31), false)⟩, ⟨.l 35, .mv (.p 3), some ((.l 34), true)⟩, ⟨.l 36, .bin .lss (.l 35) (.c (.int .i32 (48))), some ((.l 34), true)⟩, ⟨.l 37, .mv (.l 36), some ((.l 34), true)⟩, ⟨.l 38, .mv (.p 3), some ((.l 37), false)⟩, ⟨.l 39, .bin .gtr (.l 38) (.c (.int .i32 (57))), some ((.l 37), false)⟩, ⟨.l 40, .pick (.l 37) (.c (.bool true)) (.l 39), some ((.l 34), true)⟩, ⟨.l 41, .pick (.l 34) (.l 40) (.c (.bool false)), some ((.l 31), false)⟩, ⟨.l 42, .pick (.l 31) (.c (.bool true)) (.l 41), some ((.l 28), true)⟩, ⟨.l 43, .pick (.l 28) (.l 42) (.c (.bool false)), none⟩]) (.cond (.l 43) (.seq (.region [⟨.p 1, .mv (.c (.bool false)), none⟩]) (.ret)) (.skip)))))))
def b67 : ICode := .seq (.region [⟨.p 1, .mv (.c (.bool false)), none⟩]) (.seq (.seq (.region [⟨.l 6, .mv (.p 0), none⟩, ⟨.p 5, .range (.l 6), none⟩]) (.block 0 (.loop b67_0))) (.seq (.region [⟨.l 44, .mv (.p 0), none⟩, ⟨.l 45, .len .str (.l 44), none⟩, ⟨.l 46, .bin .gtr (.l 45) (.c (.int .i64 (0))), none⟩, ⟨.l 47, .mv (.l 46), none⟩, ⟨.l 48, .mv (.p 0), some ((.l 47), true)⟩, ⟨.l 49, .len .str (.l 48), some ((.l 47), true)⟩, ⟨.l 50, .bin .leq (.l 49) (.c (.int .i64 (24))), some ((.l 47), true)⟩, ⟨.l 51, .pick (.l 47) (.l 50) (.c (.bool false)), none⟩, ⟨.p 1, .mv (.l 51), none⟩]) (.ret)))
theorem ft67 : FT 67 = some ⟨52, [0, 2, 3, 4, 5, 7, 8], [.var (.p 1)], b67⟩ := by kernel_rfl
def b68_0 : ICode := .seq (.seq (.region [⟨.l 14, .mv (.p 2), none⟩, ⟨.l 15, .mv (.p 0), none⟩, ⟨.l 16, .len .str (.l 15), none⟩, ⟨.l 17, .bin .lss (.l 14) (.l 16), none⟩]) (.cond (.l 17) (.skip) (.exit 0))) (.seq (.block 1 (.seq (.region [⟨.l 20, .mv (.p 0), none⟩, ⟨.l 21, .mv (.p 2), none⟩, ⟨.l 22, .index (.l 20) (.l 21), none⟩, ⟨.p 3, .mv (.l 22), none⟩]) (.seq (.region [⟨.l 23, .mv (.p 3), none⟩, ⟨.l 24, .bin .geq (.l 23) (.c (.int .u8 (97))), none⟩, ⟨.l 25, .mv (.l 24), none⟩, ⟨.l 26, .mv (.p 3), some ((.l 25), true)⟩, ⟨.l 27, .bin .leq (.l 26) (.c (.int .u8 (122))), some ((.l 25), true)⟩, ⟨.l 28, .pick (.l 25) (.l 27) (.c (.bool false)), none⟩, ⟨.l 29, .mv (.l 28), none⟩, ⟨.l 30, .mv (.p 3), some ((.l 29), false)⟩, ⟨.l 31, .bin .geq (.l 30) (.c (.int .u8 (65))), some ((.l 29), false)⟩, ⟨.l 32, .mv (.l 31), some ((.l 29), false)⟩, ⟨.l 33, .mv (.p 3), some ((.l 32), true)⟩, ⟨.l 34, .bin .leq (.l 33) (.c (.int .u8 (90))), some ((.l 32), true)⟩, ⟨.l 35, .pick (.l 32) (.l 34) (.c (.bool false)), some ((.l 29), false)⟩, ⟨.l 36, .pick (.l 29) (.c (.bool true)) (.l 35), none⟩, ⟨.p 4, .mv (.l 36), none⟩]) (.seq (.region [⟨.l 37, .mv (.p 4), none⟩, ⟨.l 38, .un .not (.l 37), none⟩, ⟨.l 39, .mv (.l 38), none⟩, ⟨.l 40, .mv (.p 2), some ((.l 39), true)⟩, ⟨.l 41, .bin .eql (.l 40) (.c (.int .i64 (0))), some ((.l 39), true)⟩, ⟨.l 42, .mv (.l 41), some ((.l 39), true)⟩, ⟨.l 43, .mv (.p 3), some ((.l 42), false)⟩, ⟨.l 44, .bin .geq (.l 43) (.c (.int .u8 (48))), some ((.l 42), false)⟩, ⟨.l 45, .mv (.l 44), some ((.l 42), false)⟩, ⟨.l 46, .mv (.p 3), some ((.l 45), true)⟩, ⟨.l 47, .bin .leq (.l 46) (.c (.int .u8 (57))), some ((.l 45), true)⟩, ⟨.l 48, .pick (.l 45) (.l 47) (.c (.bool false)), some ((.l 42), false)⟩, ⟨.l 49, .mv (.l 48), some ((.l 42), false)⟩, ⟨.l 50, .mv (.p 3), some ((.l 49), false)⟩, ⟨.l 51, .bin .eql (.l 50) (.c (.int .u8 (95))), some ((.l 49), false)⟩, ⟨.l 52, .pick (.l 49) (.c (.bool true)) (.l 51), some ((.l 42), false)⟩, ⟨.l 53, .un .not (.l 52), some ((.l 42), false)⟩, ⟨.l 54, .pick (.l 42) (.c (.bool true)) (.l 53), some ((.l 39), true)⟩, ⟨.l 55, .pick (.l 39) (.l 54) (.c (.bool false)), none⟩]) (.cond (.l 55) (.seq (.region [⟨.p 1, .mv (.c (.bool false)), none⟩]) (.ret)) (.skip)))))) (.region [⟨.l 18, .mv (.p 2), none⟩, ⟨.l 19, .bin .add (.l 18) (.c (.int .i64 (1))), none⟩, ⟨.p 2, .mv (.l 19), none⟩]))
def b68 : ICode := .seq (.region [⟨.p 1, .mv (.c (.bool false)), none⟩]) (.seq (.seq (.region [⟨.l 6, .mv (.p 0), none⟩, ⟨.l 7, .len .str (.l 6), none⟩, ⟨.l 8, .bin .lss (.l 7) (.c (.int .i64 (1))), none⟩, ⟨.l 9, .mv (.l 8), none⟩, ⟨.l 10, .mv (.p 0), some ((.l 9), false)⟩, ⟨.l 11, .len .str (.l 10), some ((.l 9), false)⟩, ⟨.l 12, .bin .gtr (.l 11) (.c (.int .i64 (24))), some ((.l 9), false)⟩, ⟨.l 13, .pick (.l 9) (.c (.bool true)) (.l 12), none⟩]) (.cond (.l 13) (.seq (.region [⟨.p 1, .mv (.c (.bool false)), none⟩]) (.ret)) (.skip))) (.seq (.seq (.region [⟨.p 2, .mv (.c (.int .i64 (0))), none⟩]) (.block 0 (.loop b68_0))) (.seq (.region [⟨.p 1, .mv (.c (.bool true)), none⟩]) (.ret))))
theorem ft68 : FT 68 = some ⟨56, [0, 2, 3, 4, 5], [.var (.p 1)], b68⟩ := by kernel_rfl
def b126 : ICode := .seq (.region [⟨.p 2, .mv (.c (.bool false)), none⟩]) (.seq (.region [⟨.l 5, .mv (.p 0), none⟩, ⟨.l 6, .mv (.p 1), none⟩, ⟨.l 7, .call (.c (.fn (.func 186) [] [])) [(.l 5), (.l 6)], none⟩, ⟨.l 8, .bin .geq (.l 7) (.c (.int .i64 (0))), none⟩, ⟨.p 2, .mv (.l 8), none⟩]) (.ret))
theorem ft126 : FT 126 = some ⟨9, [0, 1, 4], [.var (.p 2)], b126⟩ := by kernel_rfl
def b186_0 : ICode := .seq (.region [⟨.l 9, .bin .lss (.p 5) (.p 4), none⟩]) (.seq (.cond (.l 9) (.skip) (.exit 0)) (.seq (.block 1 (.seq (.region [⟨.l 10, .mv (.p 5), none⟩, ⟨.p 3, .mv (.l 10), none⟩]) (.seq (.region [⟨.l 11, .mv (.p 1), none⟩, ⟨.l 12, .mv (.p 0), none⟩, ⟨.l 13, .mv (.p 3), none⟩, ⟨.l 14, .iaddr none 1 (.l 12) (.l 13), none⟩, ⟨.l 15, .load 1 false (.l 14), none⟩, ⟨.l 16, .bin .eql (.l 11) (.l 15), none⟩]) (.cond (.l 16) (.seq (.region [⟨.l 17, .mv (.p 3), none⟩, ⟨.p 2, .mv (.l 17), none⟩]) (.ret)) (.skip))))) (.region [⟨.l 18, .bin .add (.p 5) (.c (.int .i64 (1))), none⟩, ⟨.p 5, .mv (.l 18), none⟩])))
def b186 : ICode := .seq (.region [⟨.p 2, .mv (.c (.int .i64 (0))), none⟩]) (.seq (.seq (.region [⟨.l 6, .mv (.p 0), none⟩, ⟨.p 4, .len .sl (.l 6), none⟩, ⟨.p 5, .mv (.c (.int .i64 (0))), none⟩]) (.block 0 (.loop b186_0))) (.seq (.region [⟨.p 2, .mv (.c (.int .i64 (-1))), none⟩]) (.ret)))
theorem ft186 : FT 186 = some ⟨19, [0, 1, 4, 5, 7, 8], [.var (.p 2)], b186⟩ := by kernel_rfl
end Go.Ab.Ch6

/-
  Own work: chapter 6: names, contests and heights: their first errors, in plain Lean.
-/
namespace Go.Ab.Ch6
def letterI (c : Int) : Bool := (decide (97 ≤ c) && decide (c ≤ 122)) || (decide (65 ≤ c) && decide (c ≤ 90))
def restI (c : Int) : Bool := letterI c || (decide (c = 95) || (decide (48 ≤ c) && decide (c ≤ 57)))
def okAt (i : Nat) (c : Int) : Bool := if i = 0 then letterI c else restI c
def nameB : Str → Nat → Bool
  | [], _ => true
  | b :: r, i => okAt i b.toNat && nameB r (i + 1)
def isName (s : Str) : Bool := nameB s 0 && decide (0 < s.length) && decide (s.length ≤ 24)
theorem nameB_drop {s : Str} {i : Nat} (h : i < s.length) : nameB (s.drop i) i = (okAt i (s[i]!).toNat && nameB (s.drop (i + 1)) (i + 1)) := by
  rw [List.drop_eq_getElem_cons h, getElem!_pos s i h, nameB]
theorem okAt_ge {i : Nat} {c : Int} (h : 128 ≤ c) : okAt i c = false := by
  unfold okAt restI letterI
  split <;> simp <;> omega
theorem okAt_iff {i : Nat} {c : Int} : okAt i c = true ↔ ((97 ≤ c ∧ c ≤ 122) ∨ (65 ≤ c ∧ c ≤ 90)) ∨ (i ≠ 0 ∧ (c = 95 ∨ (48 ≤ c ∧ c ≤ 57))) := by
  unfold okAt restI letterI
  split <;> simp_all
theorem okAt_no {i : Nat} {c : Int} (h : ¬ (((97 ≤ c ∧ c ≤ 122) ∨ (65 ≤ c ∧ c ≤ 90)) ∨ (i ≠ 0 ∧ (c = 95 ∨ (48 ≤ c ∧ c ≤ 57))))) : okAt i c = false := by
  cases h' : okAt i c
  · rfl
  · exact absurd (okAt_iff.1 h') h
def nameE (l : List Str) (i : Nat) : Int := if isName l[i]! = false then 8 else if l[i]! ∈ l.take i then 9 else 0
def namesE (l : List Str) : Nat → Nat → Int
  | 0, _ => 0
  | r + 1, i => if nameE l i = 0 then namesE l r (i + 1) else nameE l i
def athE (l : List Str) : Int := if l.length = 0 then 12 else if 32 < l.length then 5 else namesE l l.length 0
def contestE (l : List Str) (t f m : Int) : Int :=
  if athE l ≠ 0 then athE l else if t < 1 ∨ 6 < t ∨ m < 0 ∨ 6 - t < m then 3 else if m = 0 then (if f ≠ 0 then 3 else 0) else if f < 1 ∨ 32 < f then 3 else 0
def shortN (l : List Str) : Bool := decide (l.length ≤ 35) && l.all (fun s => decide (s.length ≤ 40))
end Go.Ab.Ch6

/-
  Own work: chapter 6: names.
-/
namespace Go.Ab.Ch6
variable {M : Mach} {cap : Option Nat}
theorem loop67 (s : Str) (hl : s.length < 4611686018427387904) {Q : Ex → StW → Prop} : ∀ (r i : Nat) (a2 a3 a4 a6 : AV) (lo : List (Nat × AV)) (wr : List Nat), i + r = s.length →
    (nameB (s.drop i) i = true → ∀ a2 a3 a4 a6 lo J wr, Q (.exit 0) ⟨⟨[.str s, .bool false, a2, a3, a4, .ptr 0 0, a6], lo, J, []⟩, wr⟩) →
    (nameB (s.drop i) i = false → ∀ a2 a3 a4 a6 lo J wr, Q .ret ⟨⟨[.str s, .bool false, a2, a3, a4, .ptr 0 0, a6], lo, J, []⟩, wr⟩) →
    W M (.loop b67_0) ⟨⟨[.str s, .bool false, a2, a3, a4, .ptr 0 0, a6], lo, [] ++ [some (.iter s i)], []⟩, wr⟩ Q
  | 0, i, a2, a3, a4, a6, lo, wr, hi, h1, h2 => by
    obtain rfl : i = s.length := by omega
    refine W.loop ?_
    unfold b67_0
    repeat' first | (apply WO.nxF; exact rfl; omega) | apply W.seq | apply SQn | apply W.region | apply WO.nil | apply W.exit | apply SQe | apply LQe | (apply W.condF; exact rfl) | (apply WO.pl; exact rfl; exact rfl)
    exact h1 (by simp [nameB]) _ _ _ _ _ _ _
  | r + 1, i, a2, a3, a4, a6, lo, wr, hi, h1, h2 => by
    have e := nameB_drop (s := s) (i := i) (by omega)
    have step : ∀ (c : Nat) (w : Nat), Utf8.decode ⟨s.toArray⟩ i = (c, w) → (okAt i c = true → w = 1 ∧ nameB (s.drop i) i = nameB (s.drop (i + 1)) (i + 1)) → (okAt i c = false → nameB (s.drop i) i = false) → W M (.loop b67_0) ⟨⟨[.str s, .bool false, a2, a3, a4, .ptr 0 0, a6], lo, [] ++ [some (.iter s i)], []⟩, wr⟩ Q := by
      intro c w hd ht hf
      refine W.loop ?_
      unfold b67_0
      have go : ∀ a2 a3 a4 a6 lo wr, okAt i c = true → LQ M b67_0 Q .normal ⟨⟨[.str s, .bool false, a2, a3, a4, .ptr 0 0, a6], lo, [] ++ [some (.iter s (i + w))], []⟩, wr⟩ := fun a2 a3 a4 a6 lo wr h => by
        obtain ⟨rfl, e1⟩ := ht h
        rw [e1] at h1 h2
        exact LQn (loop67 s hl r (i + 1) _ _ _ _ _ _ (by omega) h1 h2)
      have stop : ∀ a2 a3 a4 a6 lo J wr, okAt i c = false → Q .ret ⟨⟨[.str s, .bool false, a2, a3, a4, .ptr 0 0, a6], lo, J, []⟩, wr⟩ := fun a2 a3 a4 a6 lo J wr h => h2 (hf h) _ _ _ _ _ _ _
      repeat' first | (apply WO.nxT; exact rfl; omega; exact hd) | apply W.seq | apply SQn | apply W.region | apply WO.nil | apply W.block | apply W.ret | apply W.skip | apply BQn | apply BQr | apply LQr | (apply W.condT; exact rfl) | (apply W.condF; exact rfl) | (apply WO.gT; exact rfl) | (apply WO.gF; exact rfl) | (apply WO.sT; exact rfl) | (apply WO.sF; exact rfl) | (apply WO.sU; exact rfl) | (apply WO.lss; exact rfl; exact rfl; all_goals first | (intro _; exfalso; omega) | intro _) | (apply WO.leq; exact rfl; exact rfl; all_goals first | (intro _; exfalso; omega) | intro _) | (apply WO.gtr; exact rfl; exact rfl; all_goals first | (intro _; exfalso; omega) | intro _) | (apply WO.geq; exact rfl; exact rfl; all_goals first | (intro _; exfalso; omega) | intro _) | (apply WO.eql; exact rfl; exact rfl; all_goals first | (intro _; exfalso; omega) | intro _) | (apply WO.neq; exact rfl; exact rfl; all_goals first | (intro _; exfalso; omega) | intro _) | (apply WO.pkT; exact rfl; exact rfl) | (apply WO.pkF; exact rfl; exact rfl) | (apply WO.pl; exact rfl; exact rfl) | (apply WO.pp; exact rfl; exact rfl)
      all_goals first
        | exact go _ _ _ _ _ _ (okAt_iff.2 (by omega))
        | exact stop _ _ _ _ _ _ _ (okAt_no (by omega))
    by_cases hb : (s[i]!).toNat < 128
    · exact step _ _ (dec_ascii (by omega) hb) (fun h => ⟨rfl, by rw [e, h, Bool.true_and]⟩) (fun h => by rw [e, h, Bool.false_and])
    · obtain ⟨c, w, hd, hc⟩ := dec_other (s := s) (i := i) (by omega) hb
      refine step c w hd (fun h => ?_) (fun _ => ?_)
      · rw [okAt_ge (by omega)] at h; cases h
      · rw [e, okAt_ge (by omega), Bool.false_and]
theorem w67 (hft : M.FT = FT) (s : Str) (hl : s.length < 4611686018427387904) : Run M 67 [.str s] [] ⟨.bool (isName s), [], []⟩ := by
  refine run_of_W (by rw [hft]; exact ft67) (by simp) ?_
  unfold b67
  simp only [List.map_cons, List.map_nil, List.getElem?_cons_zero, List.getElem?_cons_succ, List.getElem?_nil, Option.getD_some, Option.getD_none]
  repeat' first | apply W.seq | apply SQn | apply W.region | apply WO.nil | apply W.block | (apply WO.hpv; exact rfl; exact rfl; exact rfl) | (apply WO.pl; exact rfl; exact rfl) | (apply WO.pp; exact rfl; exact rfl)
  refine loop67 s hl s.length 0 _ _ _ _ _ _ (by omega) (fun h a2 a3 a4 a6 lo J wr => ?_) (fun h a2 a3 a4 a6 lo J wr => ?_)
  · rw [List.drop_zero] at h
    repeat' first | apply W.seq | apply SQn | apply W.region | apply WO.nil | apply W.ret | apply BQe | (apply WO.gT; exact rfl) | (apply WO.sT; exact rfl) | (apply WO.leq; exact rfl; exact rfl; all_goals first | (intro _; exfalso; omega) | intro _) | (apply WO.gtr; exact rfl; exact rfl; all_goals first | (intro _; exfalso; omega) | intro _) | (apply WO.pkT; exact rfl; exact rfl) | (apply WO.pkF; exact rfl; exact rfl) | (apply WO.pl; exact rfl; exact rfl) | (apply WO.pp; exact rfl; exact rfl)
    all_goals exact ⟨.inr rfl, rfl, _, rfl, congrArg AV.bool (by simp [isName, *] <;> omega), rfl⟩
  · rw [List.drop_zero] at h
    repeat' first | apply SQr | apply BQr
    exact ⟨.inr rfl, rfl, _, rfl, congrArg AV.bool (by simp [isName, h]), rfl⟩
theorem loop186 (l : List Str) (x : Str) (cap : Option Nat) (hl : l.length < 4611686018427387904) {Q : Ex → StW → Prop} : ∀ (r i : Nat), i + r = l.length → ∀ (a2 a3 : AV) (lo : List (Nat × AV)) (wr : List Nat),
    (indexOf x (l.drop i) i = -1 → ∀ a3 lo wr, Q (.exit 0) ⟨⟨[.vs (strs l) l.length cap, .str x, a2, a3, .int .i64 l.length, .int .i64 l.length], lo, [], []⟩, wr⟩) →
    (∀ a3 a5 lo wr, Q .ret ⟨⟨[.vs (strs l) l.length cap, .str x, .int .i64 (indexOf x (l.drop i) i), a3, .int .i64 l.length, a5], lo, [], []⟩, wr⟩) →
    W M (.loop b186_0) ⟨⟨[.vs (strs l) l.length cap, .str x, a2, a3, .int .i64 l.length, .int .i64 i], lo, [], []⟩, wr⟩ Q
  | 0, i, hi, a2, a3, lo, wr, h1, h2 => by
    obtain rfl : i = l.length := by omega
    refine W.loop ?_
    unfold b186_0
    repeat' first | apply W.seq | apply SQn | apply W.region | apply WO.nil | apply W.exit | apply SQe | apply LQe | (apply W.condF; exact rfl) | (apply WO.lss; exact rfl; exact rfl; all_goals first | (intro _; exfalso; omega) | intro _)
    exact h1 (by simp [indexOf]) _ _ _
  | r + 1, i, hi, a2, a3, lo, wr, h1, h2 => by
    have e := indexOf_drop (x := x) (l := l) (i := (i : Int).toNat) (by omega)
    rw [Int.toNat_natCast] at e
    refine W.loop ?_
    unfold b186_0
    repeat' first | apply W.seq | apply SQn | apply W.region | apply WO.nil | apply W.block | apply W.ret | apply W.skip | apply SQr | apply BQn | apply BQr | apply LQr | (apply W.condT; exact rfl) | (apply W.condF; exact rfl) | (apply WO.lss; exact rfl; exact rfl; all_goals first | (intro _; exfalso; omega) | intro _) | (apply WO.add; exact rfl; exact rfl; omega) | (apply WO.iav; exact rfl; exact rfl; omega) | (apply WO.lda; exact rfl; exact fun _ => rfl; (first | omega | (simp only [List.length_set]; omega) | (simp; omega)); decide; exact rfl; case ia => infer_instance) | (apply WO.seql; exact rfl; exact rfl; all_goals first | (intro h; exact absurd h (by decide)) | (intro h; exact absurd rfl h) | (intro h; contradiction) | intro _) | (apply WO.pl; exact rfl; exact rfl) | (apply WO.pp; exact rfl; exact rfl)
    · rename_i he
      rw [Int.toNat_natCast] at he
      rw [if_pos he] at e
      rw [e] at h2
      exact h2 _ _ _ _
    · rename_i he
      rw [Int.toNat_natCast] at he
      rw [if_neg he] at e
      rw [e] at h1 h2
      exact LQn (loop186 l x cap hl r (i + 1) (by omega) _ _ _ _ h1 h2)
theorem w186 (hft : M.FT = FT) (l : List Str) (x : Str) (cap : Option Nat) (hl : l.length < 4611686018427387904) : Run M 186 [.vs (strs l) l.length cap, .str x] [] ⟨.int .i64 (indexOf x l 0), [], []⟩ := by
  refine run_of_W (by rw [hft]; exact ft186) (by simp) ?_
  unfold b186
  simp only [List.map_cons, List.map_nil, List.getElem?_cons_zero, List.getElem?_cons_succ, List.getElem?_nil, Option.getD_some, Option.getD_none]
  repeat' first | apply W.seq | apply SQn | apply W.region | apply WO.nil | apply W.block | (apply WO.pl; exact rfl; exact rfl) | (apply WO.pp; exact rfl; exact rfl)
  refine loop186 l x cap hl l.length 0 (by omega) _ _ _ _ (fun h a2 lo wr => ?_) (fun a2 a5 lo wr => ?_)
  · repeat' first | apply W.seq | apply SQn | apply W.region | apply WO.nil | apply W.ret | apply BQe | (apply WO.pp; exact rfl; exact rfl)
    exact ⟨.inr rfl, rfl, _, rfl, by rw [List.drop_zero] at h; rw [h]; rfl, rfl⟩
  · repeat' first | apply SQr | apply BQr
    exact ⟨.inr rfl, rfl, _, rfl, rfl, rfl⟩
theorem w126 (hft : M.FT = FT) (c186 : ∀ l cap x h, l.length < 4611686018427387904 → M.ext 186 [.vs (strs l) l.length cap, .str x] h = some ⟨.int .i64 (indexOf x l 0), h, []⟩) (l : List Str) (x : Str) (cap : Option Nat) (hl : l.length < 4611686018427387904) : Run M 126 [.vs (strs l) l.length cap, .str x] [] ⟨.bool (decide (x ∈ l)), [], []⟩ := by
  have hi := fun h => c186 l cap x h hl
  refine run_of_W (by rw [hft]; exact ft126) (by simp) ?_
  unfold b126
  simp only [List.map_cons, List.map_nil, List.getElem?_cons_zero, List.getElem?_cons_succ, List.getElem?_nil, Option.getD_some, Option.getD_none]
  have hm := indexOf_mem (x := x) l 0
  repeat' first | apply W.seq | apply SQn | apply W.region | apply WO.nil | apply W.ret | (apply WO.geq; exact rfl; exact rfl; all_goals first | (intro _; exfalso; omega) | intro _) | (apply WO.cll; exact rfl; exact rfl; first | exact hi _) | (apply WO.pl; exact rfl; exact rfl) | (apply WO.pp; exact rfl; exact rfl)
  all_goals refine ⟨.inr rfl, rfl, _, rfl, ?_, rfl⟩
  all_goals rw [← hm]
  · rename_i h; rw [decide_eq_true h]; rfl
  · rename_i h; rw [decide_eq_false (by omega)]; rfl
theorem w64 (hft : M.FT = FT) (t : Bool) (e : Int) : Run M 64 [.bool t, .int .i64 e] [] ⟨.int .i64 (if t then e else 0), [], []⟩ := by
  refine run_of_W (by rw [hft]; exact ft64) (by simp) ?_
  unfold b64
  simp only [List.map_cons, List.map_nil, List.getElem?_cons_zero, List.getElem?_cons_succ, List.getElem?_nil, Option.getD_some, Option.getD_none]
  cases t
  all_goals
    repeat' first | apply W.seq | apply SQn | apply W.region | apply WO.nil | apply W.ret | apply W.skip | apply SQr | (apply W.condT; exact rfl) | (apply W.condF; exact rfl) | (apply WO.pl; exact rfl; exact rfl) | (apply WO.pp; exact rfl; exact rfl)
  all_goals exact ⟨.inr rfl, rfl, _, rfl, rfl, rfl⟩
theorem w63 (hft : M.FT = FT) (h91 : ∀ t e h, M.ext 64 [.bool t, .int .i64 e] h = some ⟨.int .i64 (if t then e else 0), h, []⟩) (x lo hi : Int) : Run M 63 [.int .i64 x, .int .i64 lo, .int .i64 hi] [] ⟨.int .i64 (if outI x lo hi then 3 else 0), [], []⟩ := by
  have q1 := h91 true 3
  have q2 := h91 false 3
  refine run_of_W (by rw [hft]; exact ft63) (by simp) ?_
  unfold b63
  simp only [List.map_cons, List.map_nil, List.getElem?_cons_zero, List.getElem?_cons_succ, List.getElem?_nil, Option.getD_some, Option.getD_none]
  repeat' first | apply W.seq | apply SQn | apply W.region | apply WO.nil | apply W.ret | (apply WO.gF; exact rfl) | (apply WO.sF; exact rfl) | (apply WO.lss; exact rfl; exact rfl; all_goals first | (intro _; exfalso; omega) | intro _) | (apply WO.gtr; exact rfl; exact rfl; all_goals first | (intro _; exfalso; omega) | intro _) | (apply WO.pkT; exact rfl; exact rfl) | (apply WO.pkF; exact rfl; exact rfl) | (apply WO.cll; exact rfl; exact rfl; first | exact q1 _ | exact q2 _) | (apply WO.pl; exact rfl; exact rfl) | (apply WO.pp; exact rfl; exact rfl)
  all_goals exact ⟨.inr rfl, rfl, _, rfl, congrArg (AV.int .i64) (by simp_all [outI]), rfl⟩
theorem loop61 (l : List Int) (hl : l.length < 4611686018427387904) {Q : Ex → StW → Prop} : ∀ (r i : Nat) (a2 : AV) (lo : List (Nat × AV)) (wr : List Nat), i + r = l.length →
    (firstNZ (l.drop i) = 0 → ∀ a2 lo wr, Q (.exit 0) ⟨⟨[.vs (ints l) l.length cap, .int .i64 0, a2, .vs (ints l) l.length cap, .int .i64 l.length, .int .i64 l.length], lo, [], []⟩, wr⟩) →
    (∀ a2 a5 lo wr, Q .ret ⟨⟨[.vs (ints l) l.length cap, .int .i64 (firstNZ (l.drop i)), a2, .vs (ints l) l.length cap, .int .i64 l.length, a5], lo, [], []⟩, wr⟩) →
    W M (.loop b61_0) ⟨⟨[.vs (ints l) l.length cap, .int .i64 0, a2, .vs (ints l) l.length cap, .int .i64 l.length, .int .i64 i], lo, [], []⟩, wr⟩ Q
  | 0, i, a2, lo, wr, hi, h1, h2 => by
    obtain rfl : i = l.length := by omega
    refine W.loop ?_
    unfold b61_0
    repeat' first | apply W.seq | apply SQn | apply W.region | apply WO.nil | apply W.exit | apply SQe | apply LQe | (apply W.condF; exact rfl) | (apply WO.lss; exact rfl; exact rfl; all_goals first | (intro _; exfalso; omega) | intro _)
    exact h1 (by simp [firstNZ]) _ _ _
  | r + 1, i, a2, lo, wr, hi, h1, h2 => by
    have e := firstNZ_drop (l := l) (i := (i : Int).toNat) (by omega)
    rw [Int.toNat_natCast] at e
    refine W.loop ?_
    unfold b61_0
    repeat' first | apply W.seq | apply SQn | apply W.region | apply WO.nil | apply W.block | apply W.ret | apply W.skip | apply SQr | apply BQn | apply BQr | apply LQr | (apply W.condT; exact rfl) | (apply W.condF; exact rfl) | (apply WO.lss; exact rfl; exact rfl; all_goals first | (intro _; exfalso; omega) | intro _) | (apply WO.neq; exact rfl; exact rfl; all_goals first | (intro _; exfalso; omega) | intro _) | (apply WO.add; exact rfl; exact rfl; omega) | (apply WO.iav; exact rfl; exact rfl; omega) | (apply WO.lda; exact rfl; exact fun _ => rfl; (first | omega | (simp only [List.length_set]; omega) | (simp; omega)); decide; exact rfl; case ia => infer_instance) | (apply WO.pl; exact rfl; exact rfl) | (apply WO.pp; exact rfl; exact rfl)
    · rename_i he
      rw [Int.toNat_natCast] at he
      rw [if_neg he] at e
      rw [e] at h2
      exact h2 _ _ _ _
    · rename_i he
      rw [Int.toNat_natCast] at he
      rw [if_pos he] at e
      rw [e] at h1 h2
      exact LQn (loop61 l hl r (i + 1) _ _ _ (by omega) h1 h2)
theorem w61 (hft : M.FT = FT) (l : List Int) (hl : l.length < 4611686018427387904) : Run M 61 [.vs (ints l) l.length cap] [] ⟨.int .i64 (firstNZ l), [], []⟩ := by
  refine run_of_W (by rw [hft]; exact ft61) (by simp) ?_
  unfold b61
  simp only [List.map_cons, List.map_nil, List.getElem?_cons_zero, List.getElem?_cons_succ, List.getElem?_nil, Option.getD_some, Option.getD_none]
  repeat' first | apply W.seq | apply SQn | apply W.region | apply WO.nil | apply W.block | (apply WO.pp; exact rfl; exact rfl)
  refine loop61 l hl l.length 0 _ _ _ (by omega) (fun h a2 lo wr => ?_) (fun a2 a5 lo wr => ?_)
  · repeat' first | apply W.seq | apply SQn | apply W.region | apply WO.nil | apply W.ret | apply BQe | (apply WO.pp; exact rfl; exact rfl)
    exact ⟨.inr rfl, rfl, _, rfl, by rw [List.drop_zero] at h; rw [h]; rfl, rfl⟩
  · repeat' first | apply SQr | apply BQr
    exact ⟨.inr rfl, rfl, _, rfl, rfl, rfl⟩
end Go.Ab.Ch6

/-
  Own work: chapter 6: names of a list, one by one.
-/
namespace Go.Ab.Ch6
variable {M : Mach} {cap : Option Nat}
theorem loop68 (s : Str) (hl : s.length < 1000000) {Q : Ex → StW → Prop} : ∀ (r i : Nat) (a3 a4 : AV) (lo : List (Nat × AV)), i + r = s.length →
    (nameB (s.drop i) i = true → ∀ a3 a4 lo, Q (.exit 0) ⟨⟨[.str s, .bool false, .int .i64 s.length, a3, a4], lo, [], []⟩, []⟩) →
    (nameB (s.drop i) i = false → ∀ a2 a3 a4 lo, Q .ret ⟨⟨[.str s, .bool false, a2, a3, a4], lo, [], []⟩, []⟩) →
    W M (.loop b68_0) ⟨⟨[.str s, .bool false, .int .i64 i, a3, a4], lo, [], []⟩, []⟩ Q
  | 0, i, a3, a4, lo, hi, h1, h2 => by
    obtain rfl : i = s.length := by omega
    refine W.loop ?_
    unfold b68_0
    repeat' first | apply W.seq | apply SQn | apply W.region | apply WO.nil | apply W.exit | apply SQe | apply LQe | (apply W.condF; exact rfl) | (apply WO.lss; exact rfl; exact rfl; all_goals first | (intro _; exfalso; omega) | intro _) | (apply WO.pl; exact rfl; exact rfl)
    exact h1 (by simp [nameB]) _ _ _
  | r + 1, i, a3, a4, lo, hi, h1, h2 => by
    have e := nameB_drop (s := s) (i := i) (by omega)
    have ei : ((i : Int)).toNat = i := by omega
    have hc := (s[i]!).toNat_lt
    have go : ∀ a3 a4 lo, okAt i (s[i]!).toNat = true → LQ M b68_0 Q .normal ⟨⟨[.str s, .bool false, .int .i64 ((i : Int) + 1), a3, a4], lo, [], []⟩, []⟩ := fun a3 a4 lo h => by
      rw [e, h, Bool.true_and] at h1 h2
      exact LQn (loop68 s hl r (i + 1) _ _ _ (by omega) h1 h2)
    have stop : ∀ a3 a4 lo, okAt i (s[i]!).toNat = false → Q .ret ⟨⟨[.str s, .bool false, .int .i64 i, a3, a4], lo, [], []⟩, []⟩ := fun a3 a4 lo h => h2 (by rw [e, h, Bool.false_and]) _ _ _ _
    have hv : (St.mk [.str s] [] [] []).opd (.p 0) = some (.str s) := rfl
    refine W.loop ?_
    unfold b68_0
    rw [← ei] at go stop
    repeat' first | apply W.seq | apply SQn | apply W.region | apply WO.nil | apply W.block | apply W.ret | apply W.skip | apply SQr | apply BQn | apply BQr | apply LQr | (apply W.condT; exact rfl) | (apply W.condF; exact rfl) | (apply WO.gT; exact rfl) | (apply WO.gF; exact rfl) | (apply WO.sT; exact rfl) | (apply WO.sF; exact rfl) | (apply WO.sU; exact rfl) | (apply WO.lss; exact rfl; exact rfl; all_goals first | (intro _; exfalso; omega) | intro _) | (apply WO.leq; exact rfl; exact rfl; all_goals first | (intro _; exfalso; omega) | intro _) | (apply WO.geq; exact rfl; exact rfl; all_goals first | (intro _; exfalso; omega) | intro _) | (apply WO.eql; exact rfl; exact rfl; all_goals first | (intro _; exfalso; omega) | intro _) | (apply WO.pkT; exact rfl; exact rfl) | (apply WO.pkF; exact rfl; exact rfl) | (apply WO.add; exact rfl; exact rfl; omega) | (apply WO.idx; exact rfl; exact rfl; omega) | (apply WO.pl; exact rfl; exact rfl) | (apply WO.pp; exact rfl; exact rfl)
    all_goals first
      | exact go _ _ _ (okAt_iff.2 (by omega))
      | exact stop _ _ _ (okAt_no (by omega))
theorem w68 (hft : M.FT = FT) (s : Str) (hl : s.length < 1000000) : Run M 68 [.str s] [] ⟨.bool (isName s), [], []⟩ := by
  refine run_of_W (by rw [hft]; exact ft68) (by simp) ?_
  unfold b68
  simp only [List.map_cons, List.map_nil, List.getElem?_cons_zero, List.getElem?_cons_succ, List.getElem?_nil, Option.getD_some, Option.getD_none]
  by_cases hb : s.length < 1 ∨ 24 < s.length
  · repeat' first | apply W.seq | apply SQn | apply W.region | apply WO.nil | apply W.ret | apply SQr | (apply W.condT; exact rfl) | (apply WO.gF; exact rfl) | (apply WO.sF; exact rfl) | (apply WO.lss; exact rfl; exact rfl; all_goals first | (intro _; exfalso; omega) | intro _) | (apply WO.gtr; exact rfl; exact rfl; all_goals first | (intro _; exfalso; omega) | intro _) | (apply WO.pkT; exact rfl; exact rfl) | (apply WO.pkF; exact rfl; exact rfl) | (apply WO.pl; exact rfl; exact rfl) | (apply WO.pp; exact rfl; exact rfl)
    all_goals exact ⟨.inr rfl, rfl, _, rfl, congrArg AV.bool (by simp [isName]; omega), rfl⟩
  · repeat' first | apply W.seq | apply SQn | apply W.region | apply WO.nil | apply W.block | apply W.skip | (apply W.condF; exact rfl) | (apply WO.gF; exact rfl) | (apply WO.lss; exact rfl; exact rfl; all_goals first | (intro _; exfalso; omega) | intro _) | (apply WO.gtr; exact rfl; exact rfl; all_goals first | (intro _; exfalso; omega) | intro _) | (apply WO.pkF; exact rfl; exact rfl) | (apply WO.pl; exact rfl; exact rfl) | (apply WO.pp; exact rfl; exact rfl)
    refine loop68 s hl s.length 0 _ _ _ (by omega) (fun h a3 a4 lo => ?_) (fun h a2 a3 a4 lo => ?_)
    · rw [List.drop_zero] at h
      repeat' first | apply W.seq | apply SQn | apply W.region | apply WO.nil | apply W.ret | apply BQe | (apply WO.pp; exact rfl; exact rfl)
      exact ⟨.inr rfl, rfl, _, rfl, congrArg AV.bool (by simp [isName, h]; omega), rfl⟩
    · rw [List.drop_zero] at h
      repeat' first | apply SQr | apply BQr
      exact ⟨.inr rfl, rfl, _, rfl, congrArg AV.bool (by simp [isName, h]), rfl⟩
theorem take_drop_mem {l : List Str} {i k : Nat} {x : Str} (hi : i ≤ l.length) (h : k < i) : (x ∈ (l.take i).drop k) = (l[k]! = x ∨ x ∈ (l.take i).drop (k + 1)) := by
  have hk : k < (l.take i).length := by rw [List.length_take]; omega
  rw [List.drop_eq_getElem_cons hk, List.mem_cons, List.getElem_take, getElem!_pos l k (by omega)]
  exact propext ⟨fun h => h.imp Eq.symm id, fun h => h.imp Eq.symm id⟩
theorem loop73 (l : List Str) (hl : l.length < 1000000) (i : Nat) (hi : i < l.length) {Q : Ex → StW → Prop} : ∀ (r k : Nat) (lo : List (Nat × AV)) (wr : List Nat), k + r = i →
    (l[i]! ∉ (l.take i).drop k → ∀ a3 lo wr, Q (.exit 0) ⟨⟨[.vs (strs l) l.length cap, .int .i64 i, .int .i64 0, a3], lo, [], []⟩, wr⟩) →
    (l[i]! ∈ (l.take i).drop k → ∀ a3 lo wr, Q .ret ⟨⟨[.vs (strs l) l.length cap, .int .i64 i, .int .i64 9, a3], lo, [], []⟩, wr⟩) →
    W M (.loop b73_0) ⟨⟨[.vs (strs l) l.length cap, .int .i64 i, .int .i64 0, .int .i64 k], lo, [], []⟩, wr⟩ Q
  | 0, k, lo, wr, hk, h1, h2 => by
    obtain rfl : k = i := by omega
    refine W.loop ?_
    unfold b73_0
    repeat' first | apply W.seq | apply SQn | apply W.region | apply WO.nil | apply W.exit | apply SQe | apply LQe | (apply W.condF; exact rfl) | (apply WO.lss; exact rfl; exact rfl; all_goals first | (intro _; exfalso; omega) | intro _) | (apply WO.pl; exact rfl; exact rfl)
    exact h1 (by rw [List.drop_eq_nil_of_le (by rw [List.length_take]; omega)]; simp) _ _ _
  | r + 1, k, lo, wr, hk, h1, h2 => by
    have e := take_drop_mem (l := l) (i := i) (k := k) (x := l[i]!) (by omega) (by omega)
    have ei : ((i : Int)).toNat = i := by omega
    have ek : ((k : Int)).toNat = k := by omega
    rw [e] at h1 h2
    refine W.loop ?_
    unfold b73_0
    by_cases he : l[k]! = l[i]!
    · repeat' first | apply W.seq | apply SQn | apply W.region | apply WO.nil | apply W.block | apply W.ret | apply W.skip | apply SQr | apply BQr | apply LQr | (apply W.drawro; exact rfl) | (apply W.condT; exact rfl) | (apply WO.lss; exact rfl; exact rfl; all_goals first | (intro _; exfalso; omega) | intro _) | (apply WO.iav; exact rfl; exact rfl; omega) | (apply WO.lda; exact rfl; exact fun _ => rfl; (first | omega | (simp only [List.length_set]; omega) | (simp; omega)); decide; exact rfl; case ia => infer_instance) | (apply WO.seql; exact rfl; exact rfl; all_goals first | (intro h; exact absurd h (by decide)) | (intro h; exact absurd rfl h) | (intro h; contradiction) | intro _) | (apply WO.pl; exact rfl; exact rfl) | (apply WO.pp; exact rfl; exact rfl)
      exact h2 (.inl he) _ _ _
    · repeat' first | apply W.seq | apply SQn | apply W.region | apply WO.nil | apply W.block | apply W.skip | apply BQn | (apply W.drawro; exact rfl) | (apply W.condT; exact rfl) | (apply W.condF; exact rfl) | (apply WO.lss; exact rfl; exact rfl; all_goals first | (intro _; exfalso; omega) | intro _) | (apply WO.add; exact rfl; exact rfl; omega) | (apply WO.iav; exact rfl; exact rfl; omega) | (apply WO.lda; exact rfl; exact fun _ => rfl; (first | omega | (simp only [List.length_set]; omega) | (simp; omega)); decide; exact rfl; case ia => infer_instance) | (apply WO.seql; exact rfl; exact rfl; all_goals first | (intro h; exact absurd h (by decide)) | (intro h; exact absurd rfl h) | (intro h; contradiction) | intro _) | (apply WO.pl; exact rfl; exact rfl) | (apply WO.pp; exact rfl; exact rfl)
      exact LQn (loop73 l hl i hi r (k + 1) _ _ (by omega) (fun h => h1 (fun h' => h'.elim he h)) (fun h => h2 (.inr h)))
theorem w73 (hft : M.FT = FT) (c68 : ∀ (s : Str) h, s.length < 1000000 → M.ext 68 [.str s] h = some ⟨.bool (isName s), h, []⟩) (l : List Str) (hl : l.length < 1000000) (hL : ∀ s ∈ l, s.length < 1000000) (i : Nat) (hi : i < l.length) :
    Run M 73 [.vs (strs l) l.length cap, .int .i64 i] [] ⟨.int .i64 (nameE l i), [], []⟩ := by
  have ei : ((i : Int)).toNat = i := by omega
  have q := fun h => c68 l[((i : Int)).toNat]! h (by rw [ei]; exact hL _ (by rw [getElem!_pos l i hi]; exact List.getElem_mem hi))
  refine run_of_W (by rw [hft]; exact ft73) (by simp) ?_
  unfold b73
  simp only [List.map_cons, List.map_nil, List.getElem?_cons_zero, List.getElem?_cons_succ, List.getElem?_nil, Option.getD_some, Option.getD_none]
  cases hn : isName l[((i : Int)).toNat]!
  · rw [hn] at q
    repeat' first | apply W.seq | apply SQn | apply W.region | apply WO.nil | apply W.ret | apply SQr | (apply W.condT; exact rfl) | (apply WO.cll; exact rfl; exact rfl; first | exact q _) | (apply WO.iav; exact rfl; exact rfl; omega) | (apply WO.lda; exact rfl; exact fun _ => rfl; (first | omega | (simp only [List.length_set]; omega) | (simp; omega)); decide; exact rfl; case ia => infer_instance) | (apply WO.pl; exact rfl; exact rfl) | (apply WO.pp; exact rfl; exact rfl)
    exact ⟨.inr rfl, rfl, _, rfl, by rw [ei] at hn; rw [nameE, if_pos hn]; rfl, rfl⟩
  · rw [hn] at q
    repeat' first | apply W.seq | apply SQn | apply W.region | apply WO.nil | apply W.block | apply W.skip | (apply W.condF; exact rfl) | (apply WO.cll; exact rfl; exact rfl; first | exact q _) | (apply WO.iav; exact rfl; exact rfl; omega) | (apply WO.lda; exact rfl; exact fun _ => rfl; (first | omega | (simp only [List.length_set]; omega) | (simp; omega)); decide; exact rfl; case ia => infer_instance) | (apply WO.pl; exact rfl; exact rfl) | (apply WO.pp; exact rfl; exact rfl)
    rw [ei] at hn
    refine loop73 l hl i hi i 0 _ _ (by omega) (fun h a3 lo wr => ?_) (fun h a3 lo wr => ?_)
    · rw [List.drop_zero] at h
      repeat' first | apply W.seq | apply SQn | apply W.region | apply WO.nil | apply W.ret | apply BQe | (apply WO.pp; exact rfl; exact rfl)
      exact ⟨.inr rfl, rfl, _, rfl, by rw [nameE, if_neg (by rw [hn]; decide), if_neg h]; rfl, rfl⟩
    · rw [List.drop_zero] at h
      repeat' first | apply SQr | apply BQr
      exact ⟨.inr rfl, rfl, _, rfl, by rw [nameE, if_neg (by rw [hn]; decide), if_pos h]; rfl, rfl⟩
theorem loop65 (c73 : ∀ (l : List Str) cap (i : Nat) h, l.length < 1000000 → (∀ s ∈ l, s.length < 1000000) → i < l.length → M.ext 73 [.vs (strs l) l.length cap, .int .i64 i] h = some ⟨.int .i64 (nameE l i), h, []⟩) (l : List Str) (hl : l.length < 1000000) (hL : ∀ s ∈ l, s.length < 1000000) {Q : Ex → StW → Prop} : ∀ (r i : Nat) (a3 : AV) (lo : List (Nat × AV)) (wr : List Nat), i + r = l.length →
    (namesE l r i = 0 → ∀ a2 a3 lo wr, Q (.exit 0) ⟨⟨[.vs (strs l) l.length cap, .int .i64 0, a2, a3], lo, [], []⟩, wr⟩) →
    (namesE l r i ≠ 0 → ∀ a2 a3 lo wr, Q .ret ⟨⟨[.vs (strs l) l.length cap, .int .i64 (namesE l r i), a2, a3], lo, [], []⟩, wr⟩) →
    W M (.loop b65_0) ⟨⟨[.vs (strs l) l.length cap, .int .i64 0, .int .i64 i, a3], lo, [], []⟩, wr⟩ Q
  | 0, i, a3, lo, wr, hi, h1, h2 => by
    obtain rfl : i = l.length := by omega
    refine W.loop ?_
    unfold b65_0
    repeat' first | apply W.seq | apply SQn | apply W.region | apply WO.nil | apply W.exit | apply SQe | apply LQe | (apply W.condF; exact rfl) | (apply WO.lss; exact rfl; exact rfl; all_goals first | (intro _; exfalso; omega) | intro _) | (apply WO.pl; exact rfl; exact rfl)
    exact h1 rfl _ _ _ _
  | r + 1, i, a3, lo, wr, hi, h1, h2 => by
    have q := fun h => c73 l cap i h hl hL (by omega)
    have e : namesE l (r + 1) i = if nameE l i = 0 then namesE l r (i + 1) else nameE l i := rfl
    refine W.loop ?_
    unfold b65_0
    by_cases hn : nameE l i = 0
    · rw [hn] at q
      rw [if_pos hn] at e
      rw [e] at h1 h2
      repeat' first | apply W.seq | apply SQn | apply W.region | apply WO.nil | apply W.block | apply W.skip | apply BQn | (apply W.condT; exact rfl) | (apply W.condF; exact rfl) | (apply WO.lss; exact rfl; exact rfl; all_goals first | (intro _; exfalso; omega) | intro _) | (apply WO.neq; exact rfl; exact rfl; all_goals first | (intro _; exfalso; omega) | intro _) | (apply WO.add; exact rfl; exact rfl; omega) | (apply WO.cll; exact rfl; exact rfl; first | exact q _) | (apply WO.pl; exact rfl; exact rfl) | (apply WO.pp; exact rfl; exact rfl)
      exact LQn (loop65 c73 l hl hL r (i + 1) _ _ _ (by omega) h1 h2)
    · rw [if_neg hn] at e
      rw [e] at h1 h2
      generalize nameE l i = z at *
      repeat' first | apply W.seq | apply SQn | apply W.region | apply WO.nil | apply W.block | apply W.ret | apply W.skip | apply SQr | apply BQr | apply LQr | (apply W.condT; exact rfl) | (apply WO.lss; exact rfl; exact rfl; all_goals first | (intro _; exfalso; omega) | intro _) | (apply WO.neq; exact rfl; exact rfl; all_goals first | (intro _; exfalso; omega) | intro _) | (apply WO.cll; exact rfl; exact rfl; first | exact q _) | (apply WO.pl; exact rfl; exact rfl) | (apply WO.pp; exact rfl; exact rfl)
      exact h2 hn _ _ _ _
theorem w65 (hft : M.FT = FT) (c73 : ∀ (l : List Str) cap (i : Nat) h, l.length < 1000000 → (∀ s ∈ l, s.length < 1000000) → i < l.length → M.ext 73 [.vs (strs l) l.length cap, .int .i64 i] h = some ⟨.int .i64 (nameE l i), h, []⟩) (l : List Str) (hl : l.length < 1000000) (hL : ∀ s ∈ l, s.length < 1000000) :
    Run M 65 [.vs (strs l) l.length cap] [] ⟨.int .i64 (athE l), [], []⟩ := by
  refine run_of_W (by rw [hft]; exact ft65) (by simp) ?_
  unfold b65
  simp only [List.map_cons, List.map_nil, List.getElem?_cons_zero, List.getElem?_cons_succ, List.getElem?_nil, Option.getD_some, Option.getD_none]
  by_cases h0 : l.length = 0
  · repeat' first | apply W.seq | apply SQn | apply W.region | apply WO.nil | apply W.ret | apply SQr | (apply W.condT; exact rfl) | (apply WO.eql; exact rfl; exact rfl; all_goals first | (intro _; exfalso; omega) | intro _) | (apply WO.pl; exact rfl; exact rfl) | (apply WO.pp; exact rfl; exact rfl)
    exact ⟨.inr rfl, rfl, _, rfl, by rw [athE, if_pos h0]; rfl, rfl⟩
  by_cases h32 : 32 < l.length
  · repeat' first | apply W.seq | apply SQn | apply W.region | apply WO.nil | apply W.ret | apply W.skip | apply SQr | (apply W.condT; exact rfl) | (apply W.condF; exact rfl) | (apply WO.gtr; exact rfl; exact rfl; all_goals first | (intro _; exfalso; omega) | intro _) | (apply WO.eql; exact rfl; exact rfl; all_goals first | (intro _; exfalso; omega) | intro _) | (apply WO.pl; exact rfl; exact rfl) | (apply WO.pp; exact rfl; exact rfl)
    exact ⟨.inr rfl, rfl, _, rfl, by rw [athE, if_neg h0, if_pos h32]; rfl, rfl⟩
  · repeat' first | apply W.seq | apply SQn | apply W.region | apply WO.nil | apply W.block | apply W.skip | (apply W.condF; exact rfl) | (apply WO.gtr; exact rfl; exact rfl; all_goals first | (intro _; exfalso; omega) | intro _) | (apply WO.eql; exact rfl; exact rfl; all_goals first | (intro _; exfalso; omega) | intro _) | (apply WO.pl; exact rfl; exact rfl) | (apply WO.pp; exact rfl; exact rfl)
    refine loop65 c73 l hl hL l.length 0 _ _ _ (by omega) (fun h a2 a3 lo wr => ?_) (fun h a2 a3 lo wr => ?_)
    · repeat' first | apply W.seq | apply SQn | apply W.region | apply WO.nil | apply W.ret | apply BQe | (apply WO.pp; exact rfl; exact rfl)
      exact ⟨.inr rfl, rfl, _, rfl, by rw [athE, if_neg h0, if_neg h32, h]; rfl, rfl⟩
    · repeat' first | apply SQr | apply BQr
      exact ⟨.inr rfl, rfl, _, rfl, by rw [athE, if_neg h0, if_neg h32]; rfl, rfl⟩
end Go.Ab.Ch6

/-
  Own work: chapter 6: names of a list by the program; contests.
-/
namespace Go.Ab.Ch6
variable {M : Mach} {cap : Option Nat}
structure CF (M : Mach) : Prop where
  ft : M.FT = FT
  c64 : ∀ t e h, M.ext 64 [.bool t, .int .i64 e] h = some ⟨.int .i64 (if t then e else 0), h, []⟩
  c63 : ∀ x lo hi h, M.ext 63 [.int .i64 x, .int .i64 lo, .int .i64 hi] h = some ⟨.int .i64 (if outI x lo hi then 3 else 0), h, []⟩
  c61 : ∀ v l h, intsAt h v = some l → l.length < 4611686018427387904 → M.ext 61 [v] h = some ⟨.int .i64 (firstNZ l), h, []⟩
theorem CF.q2 (C : CF M) (H : Heap) (a b : Int) : M.ext 61 [.sl H.length 0 2 1 (some 2)] (H ++ [some (.cells [.int .i64 a, .int .i64 b] 30)]) = some ⟨.int .i64 (firstNZ [a, b]), H ++ [some (.cells [.int .i64 a, .int .i64 b] 30)], []⟩ := by
  have e : Heap.at (H ++ [some (.cells [.int .i64 a, .int .i64 b] 30)]) H.length = some (.cells (ints [a, b]) 30) := at_new
  exact C.c61 _ [a, b] _ (ints_at e rfl) (by simp)
theorem CF.q3 (C : CF M) (H : Heap) (a b c : Int) : M.ext 61 [.sl H.length 0 3 1 (some 3)] (H ++ [some (.cells [.int .i64 a, .int .i64 b, .int .i64 c] 30)]) = some ⟨.int .i64 (firstNZ [a, b, c]), H ++ [some (.cells [.int .i64 a, .int .i64 b, .int .i64 c] 30)], []⟩ := by
  have e : Heap.at (H ++ [some (.cells [.int .i64 a, .int .i64 b, .int .i64 c] 30)]) H.length = some (.cells (ints [a, b, c]) 30) := at_new
  exact C.c61 _ [a, b, c] _ (ints_at e rfl) (by simp)
theorem nameE_first (l : List Str) (i : Nat) : firstNZ [if (!isName l[i]!) = true then 8 else 0, if decide (l[i]! ∈ l.take i) = true then 9 else 0] = nameE l i := by
  unfold nameE
  cases isName l[i]!
  · simp [firstNZ]
  · by_cases h : l[i]! ∈ l.take i
    · rw [decide_eq_true h, if_pos h]; simp [firstNZ]
    · rw [decide_eq_false h, if_neg h]; simp [firstNZ]
theorem w76 (C : CF M) (c67 : ∀ (s : Str) h, s.length < 1000000 → M.ext 67 [.str s] h = some ⟨.bool (isName s), h, []⟩) (c126 : ∀ (l : List Str) x cap h, l.length < 1000000 → M.ext 126 [.vs (strs l) l.length cap, .str x] h = some ⟨.bool (decide (x ∈ l)), h, []⟩) (l : List Str) (hl : l.length < 1000000) (hL : ∀ s ∈ l, s.length < 1000000) (i : Nat) (hi : i < l.length) :
    Run M 76 [.vs (strs l) l.length cap, .int .i64 i] [] ⟨.int .i64 (nameE l i), [], []⟩ := by
  have ei : ((i : Int)).toNat = i := by omega
  have q67 := fun h => c67 l[((i : Int)).toNat]! h (by rw [ei]; exact hL _ (by rw [getElem!_pos l i hi]; exact List.getElem_mem hi))
  have q126 := fun h => c126 (l.take ((i : Int)).toNat) l[((i : Int)).toNat]! cap h (by rw [List.length_take]; omega)
  have q61 := fun a b => C.q2 [] a b
  have hf := nameE_first l ((i : Int)).toNat
  rw [show nameE l i = nameE l ((i : Int)).toNat from by rw [ei]]
  rw [← hf]
  refine run_of_W (by rw [C.ft]; exact ft76) (by simp) ?_
  unfold b76
  simp only [List.map_cons, List.map_nil, List.getElem?_cons_zero, List.getElem?_cons_succ, List.getElem?_nil, Option.getD_some, Option.getD_none]
  repeat' first | (apply WO.slv (f := fun x => [AV.str x]); exact rfl; exact rfl; exact fun _ => rfl; omega) | apply W.seq | apply SQn | apply W.region | apply WO.nil | apply W.ret | apply W.draw | apply WD.nil | (apply WD.pure1; exact rfl) | (apply WD.load1; exact rfl; exact rfl; exact rfl) | (apply WD.new1; exact rfl) | (apply WD.cl0; exact rfl; exact rfl; exact rfl; first | exact q67 _ | exact q126 _ | exact C.c64 _ _ _ | exact q61 _ _) | (apply WO.iav; exact rfl; exact rfl; omega) | (apply WO.lda; exact rfl; exact fun _ => rfl; (first | omega | (simp only [List.length_set]; omega) | (simp; omega)); decide; exact rfl; case ia => infer_instance) | (apply WO.hlv; exact rfl; exact rfl; exact rfl) | (apply WO.pl; exact rfl; exact rfl) | (apply WO.pp; exact rfl; exact rfl)
  all_goals exact ⟨.inr rfl, rfl, _, rfl, rfl, rfl⟩
theorem loop62 (c76 : ∀ (l : List Str) cap (i : Nat) h, l.length < 1000000 → (∀ s ∈ l, s.length < 1000000) → i < l.length → M.ext 76 [.vs (strs l) l.length cap, .int .i64 i] h = some ⟨.int .i64 (nameE l i), h, []⟩) (l : List Str) (hl : l.length < 1000000) (hL : ∀ s ∈ l, s.length < 1000000) (hp : Heap) {Q : Ex → StW → Prop} : ∀ (r i : Nat) (a2 a3 a4 : AV) (lo : List (Nat × AV)) (wr : List Nat), i + r = l.length →
    (namesE l r i = 0 → ∀ a2 a3 a4 lo wr, Q (.exit 0) ⟨⟨[.vs (strs l) l.length cap, .int .i64 0, a2, a3, a4, .int .i64 l.length, .int .i64 l.length], lo, hp, []⟩, wr⟩) →
    (namesE l r i ≠ 0 → ∀ a2 a3 a4 a6 lo wr, Q .ret ⟨⟨[.vs (strs l) l.length cap, .int .i64 (namesE l r i), a2, a3, a4, .int .i64 l.length, a6], lo, hp, []⟩, wr⟩) →
    W M (.loop b62_0) ⟨⟨[.vs (strs l) l.length cap, .int .i64 0, a2, a3, a4, .int .i64 l.length, .int .i64 i], lo, hp, []⟩, wr⟩ Q
  | 0, i, a2, a3, a4, lo, wr, hi, h1, h2 => by
    obtain rfl : i = l.length := by omega
    refine W.loop ?_
    unfold b62_0
    repeat' first | apply W.seq | apply SQn | apply W.region | apply WO.nil | apply W.exit | apply SQe | apply LQe | (apply W.condF; exact rfl) | (apply WO.lss; exact rfl; exact rfl; all_goals first | (intro _; exfalso; omega) | intro _)
    exact h1 rfl _ _ _ _ _
  | r + 1, i, a2, a3, a4, lo, wr, hi, h1, h2 => by
    have q := fun h => c76 l cap i h hl hL (by omega)
    have e : namesE l (r + 1) i = if nameE l i = 0 then namesE l r (i + 1) else nameE l i := rfl
    refine W.loop ?_
    unfold b62_0
    by_cases hn : nameE l i = 0
    · rw [hn] at q
      rw [if_pos hn] at e
      rw [e] at h1 h2
      repeat' first | apply W.seq | apply SQn | apply W.region | apply WO.nil | apply W.block | apply W.skip | apply BQn | (apply W.condT; exact rfl) | (apply W.condF; exact rfl) | (apply WO.lss; exact rfl; exact rfl; all_goals first | (intro _; exfalso; omega) | intro _) | (apply WO.neq; exact rfl; exact rfl; all_goals first | (intro _; exfalso; omega) | intro _) | (apply WO.add; exact rfl; exact rfl; omega) | (apply WO.cll; exact rfl; exact rfl; first | exact q _) | (apply WO.pl; exact rfl; exact rfl) | (apply WO.pp; exact rfl; exact rfl)
      exact LQn (loop62 c76 l hl hL hp r (i + 1) _ _ _ _ _ (by omega) h1 h2)
    · rw [if_neg hn] at e
      rw [e] at h1 h2
      generalize nameE l i = z at *
      repeat' first | apply W.seq | apply SQn | apply W.region | apply WO.nil | apply W.block | apply W.ret | apply W.skip | apply SQr | apply BQr | apply LQr | (apply W.condT; exact rfl) | (apply WO.lss; exact rfl; exact rfl; all_goals first | (intro _; exfalso; omega) | intro _) | (apply WO.neq; exact rfl; exact rfl; all_goals first | (intro _; exfalso; omega) | intro _) | (apply WO.cll; exact rfl; exact rfl; first | exact q _) | (apply WO.pl; exact rfl; exact rfl) | (apply WO.pp; exact rfl; exact rfl)
      exact h2 hn _ _ _ _ _ _
theorem w62 (C : CF M) (c76 : ∀ (l : List Str) cap (i : Nat) h, l.length < 1000000 → (∀ s ∈ l, s.length < 1000000) → i < l.length → M.ext 76 [.vs (strs l) l.length cap, .int .i64 i] h = some ⟨.int .i64 (nameE l i), h, []⟩) (l : List Str) (hl : l.length < 1000000) (hL : ∀ s ∈ l, s.length < 1000000) :
    Run M 62 [.vs (strs l) l.length cap] [] ⟨.int .i64 (athE l), [], []⟩ := by
  have lit : ∀ a b c : Int, firstNZ [a, b] = c → M.ext 61 [.sl ([] : Heap).length 0 2 1 (some 2)] ([] ++ [some (.cells [.int .i64 a, .int .i64 b] 30)]) = some ⟨.int .i64 c, [] ++ [some (.cells [.int .i64 a, .int .i64 b] 30)], []⟩ := fun a b c h => by rw [C.q2 [] a b, h]
  have q64 := C.c64
  refine run_of_W (by rw [C.ft]; exact ft62) (by simp) ?_
  unfold b62
  simp only [List.map_cons, List.map_nil, List.getElem?_cons_zero, List.getElem?_cons_succ, List.getElem?_nil, Option.getD_some, Option.getD_none]
  by_cases h0 : l.length = 0
  · repeat' first | apply W.seq | apply SQn | apply W.region | apply WO.nil | apply W.ret | apply SQr | (apply W.condT; exact rfl) | (apply WO.gtr; exact rfl; exact rfl; all_goals first | (intro _; exfalso; omega) | intro _) | (apply WO.eql; exact rfl; exact rfl; all_goals first | (intro _; exfalso; omega) | intro _) | (apply WO.neq; exact rfl; exact rfl; all_goals first | (intro _; exfalso; omega) | intro _) | (apply WO.cll; exact rfl; exact rfl; first | exact q64 true 12 _ | exact q64 false 5 _ | exact lit 12 0 12 rfl) | (apply WO.hlv; exact rfl; exact rfl; exact rfl) | (apply WO.pl; exact rfl; exact rfl) | (apply WO.pp; exact rfl; exact rfl)
    all_goals exact ⟨.inr rfl, rfl, _, rfl, by rw [athE, if_pos h0]; rfl, rfl⟩
  by_cases h32 : 32 < l.length
  · repeat' first | apply W.seq | apply SQn | apply W.region | apply WO.nil | apply W.ret | apply SQr | (apply W.condT; exact rfl) | (apply WO.gtr; exact rfl; exact rfl; all_goals first | (intro _; exfalso; omega) | intro _) | (apply WO.eql; exact rfl; exact rfl; all_goals first | (intro _; exfalso; omega) | intro _) | (apply WO.neq; exact rfl; exact rfl; all_goals first | (intro _; exfalso; omega) | intro _) | (apply WO.cll; exact rfl; exact rfl; first | exact q64 false 12 _ | exact q64 true 5 _ | exact lit 0 5 5 rfl) | (apply WO.hlv; exact rfl; exact rfl; exact rfl) | (apply WO.pl; exact rfl; exact rfl) | (apply WO.pp; exact rfl; exact rfl)
    all_goals exact ⟨.inr rfl, rfl, _, rfl, by rw [athE, if_neg h0, if_pos h32]; rfl, rfl⟩
  · repeat' first | apply W.seq | apply SQn | apply W.region | apply WO.nil | apply W.block | apply W.skip | (apply W.condF; exact rfl) | (apply WO.gtr; exact rfl; exact rfl; all_goals first | (intro _; exfalso; omega) | intro _) | (apply WO.eql; exact rfl; exact rfl; all_goals first | (intro _; exfalso; omega) | intro _) | (apply WO.neq; exact rfl; exact rfl; all_goals first | (intro _; exfalso; omega) | intro _) | (apply WO.cll; exact rfl; exact rfl; first | exact q64 false 12 _ | exact q64 false 5 _ | exact lit 0 0 0 rfl) | (apply WO.hlv; exact rfl; exact rfl; exact rfl) | (apply WO.pl; exact rfl; exact rfl) | (apply WO.pp; exact rfl; exact rfl)
    all_goals first | (exfalso; omega) | skip
    refine loop62 c76 l hl hL _ l.length 0 _ _ _ _ _ (by omega) (fun h a2 a3 a4 lo wr => ?_) (fun h a2 a3 a4 a6 lo wr => ?_)
    · repeat' first | apply W.seq | apply SQn | apply W.region | apply WO.nil | apply W.ret | apply BQe | (apply WO.pp; exact rfl; exact rfl)
      exact ⟨.inr rfl, rfl, _, rfl, by rw [athE, if_neg h0, if_neg h32, h]; rfl, rfl⟩
    · repeat' first | apply SQr | apply BQr
      exact ⟨.inr rfl, rfl, _, rfl, by rw [athE, if_neg h0, if_neg h32]; rfl, rfl⟩
theorem all_dropN {l : List Str} {i : Nat} (h : i < l.length) : (l.drop i).all (fun s => decide (s.length ≤ 40)) = (decide (l[i]!.length ≤ 40) && (l.drop (i + 1)).all (fun s => decide (s.length ≤ 40))) := by
  rw [List.drop_eq_getElem_cons h, getElem!_pos l i h, List.all_cons]
theorem loop9 (l : List Str) (hl : l.length < 1000000) {Q : Ex → StW → Prop} : ∀ (r i : Nat) (lo : List (Nat × AV)) (wr : List Nat), i + r = l.length →
    ((l.drop i).all (fun s => decide (s.length ≤ 40)) = true → ∀ a2 lo wr, Q (.exit 0) ⟨⟨[.vs (strs l) l.length cap, .bool false, a2], lo, [], []⟩, wr⟩) →
    ((l.drop i).all (fun s => decide (s.length ≤ 40)) = false → ∀ a2 lo wr, Q .ret ⟨⟨[.vs (strs l) l.length cap, .bool false, a2], lo, [], []⟩, wr⟩) →
    W M (.loop b9_0) ⟨⟨[.vs (strs l) l.length cap, .bool false, .int .i64 i], lo, [], []⟩, wr⟩ Q
  | 0, i, lo, wr, hi, h1, h2 => by
    obtain rfl : i = l.length := by omega
    refine W.loop ?_
    unfold b9_0
    repeat' first | apply W.seq | apply SQn | apply W.region | apply WO.nil | apply W.exit | apply SQe | apply LQe | (apply W.condF; exact rfl) | (apply WO.lss; exact rfl; exact rfl; all_goals first | (intro _; exfalso; omega) | intro _) | (apply WO.pl; exact rfl; exact rfl)
    exact h1 (by simp) _ _ _
  | r + 1, i, lo, wr, hi, h1, h2 => by
    have e := all_dropN (l := l) (i := i) (by omega)
    have ei : ((i : Int)).toNat = i := by omega
    refine W.loop ?_
    unfold b9_0
    repeat' first | apply W.seq | apply SQn | apply W.region | apply WO.nil | apply W.block | apply W.ret | apply W.skip | apply SQr | apply BQn | apply BQr | apply LQr | (apply W.condT; exact rfl) | (apply W.condF; exact rfl) | (apply WO.lss; exact rfl; exact rfl; all_goals first | (intro _; exfalso; omega) | intro _) | (apply WO.gtr; exact rfl; exact rfl; all_goals first | (intro _; exfalso; omega) | intro _) | (apply WO.add; exact rfl; exact rfl; omega) | (apply WO.iav; exact rfl; exact rfl; omega) | (apply WO.lda; exact rfl; exact fun _ => rfl; (first | omega | (simp only [List.length_set]; omega) | (simp; omega)); decide; exact rfl; case ia => infer_instance) | (apply WO.pl; exact rfl; exact rfl) | (apply WO.pp; exact rfl; exact rfl)
    · rename_i h
      rw [ei] at h
      exact h2 (by rw [e, decide_eq_false (by omega), Bool.false_and]) _ _ _
    · rename_i h
      rw [ei] at h
      rw [e, decide_eq_true (by omega), Bool.true_and] at h1 h2
      exact LQn (loop9 l hl r (i + 1) _ _ (by omega) h1 h2)
theorem w9 (hft : M.FT = FT) (l : List Str) : Run M 9 [.vs (strs l) l.length cap] [] ⟨.bool (shortN l), [], []⟩ := by
  refine run_of_W (by rw [hft]; exact ft9) (by simp) ?_
  unfold b9
  simp only [List.map_cons, List.map_nil, List.getElem?_cons_zero, List.getElem?_cons_succ, List.getElem?_nil, Option.getD_some, Option.getD_none]
  by_cases h0 : 35 < l.length
  · repeat' first | apply W.seq | apply SQn | apply W.region | apply WO.nil | apply W.ret | apply SQr | (apply W.condT; exact rfl) | (apply WO.gtr; exact rfl; exact rfl; all_goals first | (intro _; exfalso; omega) | intro _) | (apply WO.pl; exact rfl; exact rfl) | (apply WO.pp; exact rfl; exact rfl)
    exact ⟨.inr rfl, rfl, _, rfl, by rw [shortN, decide_eq_false (by omega)]; rfl, rfl⟩
  · repeat' first | apply W.seq | apply SQn | apply W.region | apply WO.nil | apply W.block | apply W.skip | (apply W.condF; exact rfl) | (apply WO.gtr; exact rfl; exact rfl; all_goals first | (intro _; exfalso; omega) | intro _) | (apply WO.pl; exact rfl; exact rfl) | (apply WO.pp; exact rfl; exact rfl)
    refine loop9 l (by omega) l.length 0 _ _ (by omega) (fun h a2 lo wr => ?_) (fun h a2 lo wr => ?_)
    · rw [List.drop_zero] at h
      repeat' first | apply W.seq | apply SQn | apply W.region | apply WO.nil | apply W.ret | apply BQe | (apply WO.pp; exact rfl; exact rfl)
      exact ⟨.inr rfl, rfl, _, rfl, by rw [shortN, decide_eq_true (by omega), h]; rfl, rfl⟩
    · rw [List.drop_zero] at h
      repeat' first | apply SQr | apply BQr
      exact ⟨.inr rfl, rfl, _, rfl, by rw [shortN, h, Bool.and_false]; rfl, rfl⟩
end Go.Ab.Ch6

/-
  Own work: chapter 6: the errors of contests and of heights, by both.
-/
namespace Go.Ab.Ch6
variable {M : Mach} {cap : Option Nat}
theorem w12 (hft : M.FT = FT) (c65 : ∀ (l : List Str) cap h, l.length < 1000000 → (∀ s ∈ l, s.length < 1000000) → M.ext 65 [.vs (strs l) l.length cap] h = some ⟨.int .i64 (athE l), h, []⟩) (l : List Str) (t f m : Int) (hl : l.length < 1000000) (hL : ∀ s ∈ l, s.length < 1000000) :
    Run M 12 [.agg [.vs (strs l) l.length cap, .int .i64 t, .int .i64 f, .int .i64 m]] [] ⟨.int .i64 (contestE l t f m), [], []⟩ := by
  have q := fun h => c65 l cap h hl hL
  refine run_of_W (by rw [hft]; exact ft12) (by simp) ?_
  unfold b12
  simp only [List.map_cons, List.map_nil, List.getElem?_cons_zero, List.getElem?_cons_succ, List.getElem?_nil, Option.getD_some, Option.getD_none]
  by_cases h0 : athE l = 0
  · rw [h0] at q
    repeat' first | apply W.seq | apply SQn | apply W.region | apply WO.nil | apply W.ret | apply W.skip | apply SQr | (apply W.condT; exact rfl) | (apply W.condF; exact rfl) | (apply WO.gT; exact rfl) | (apply WO.gF; exact rfl) | (apply WO.sT; exact rfl) | (apply WO.sF; exact rfl) | (apply WO.sU; exact rfl) | (apply WO.lss; exact rfl; exact rfl; all_goals first | (intro _; exfalso; omega) | intro _) | (apply WO.gtr; exact rfl; exact rfl; all_goals first | (intro _; exfalso; omega) | intro _) | (apply WO.eql; exact rfl; exact rfl; all_goals first | (intro _; exfalso; omega) | intro _) | (apply WO.neq; exact rfl; exact rfl; all_goals first | (intro _; exfalso; omega) | intro _) | (apply WO.pkT; exact rfl; exact rfl) | (apply WO.pkF; exact rfl; exact rfl) | (apply WO.sub; exact rfl; exact rfl; omega) | (apply WO.cll; exact rfl; exact rfl; first | exact q _) | (apply WO.hlv; exact rfl; exact rfl; exact rfl) | (apply WO.hpv; exact rfl; exact rfl; exact rfl) | (apply WO.pl; exact rfl; exact rfl) | (apply WO.pp; exact rfl; exact rfl)
    all_goals exact ⟨.inr rfl, rfl, _, rfl, congrArg (AV.int .i64) (by unfold contestE; (repeat' split) <;> first | rfl | (exfalso; omega)), rfl⟩
  · have e : contestE l t f m = athE l := by unfold contestE; rw [if_pos h0]
    rw [e]
    generalize athE l = z at *
    repeat' first | apply W.seq | apply SQn | apply W.region | apply WO.nil | apply W.ret | apply SQr | (apply W.condT; exact rfl) | (apply WO.neq; exact rfl; exact rfl; all_goals first | (intro _; exfalso; omega) | intro _) | (apply WO.cll; exact rfl; exact rfl; first | exact q _) | (apply WO.hlv; exact rfl; exact rfl; exact rfl) | (apply WO.hpv; exact rfl; exact rfl; exact rfl) | (apply WO.pl; exact rfl; exact rfl) | (apply WO.pp; exact rfl; exact rfl)
    exact ⟨.inr rfl, rfl, _, rfl, rfl, rfl⟩
theorem outI_iff {x lo hi : Int} : outI x lo hi = true ↔ x < lo ∨ hi < x := by simp [outI]
theorem CF.lit3 (C : CF M) (H : Heap) (a b c r : Int) (h : firstNZ [a, b, c] = r) : M.ext 61 [.sl H.length 0 3 1 (some 3)] (H ++ [some (.cells [.int .i64 a, .int .i64 b, .int .i64 c] 30)]) = some ⟨.int .i64 r, H ++ [some (.cells [.int .i64 a, .int .i64 b, .int .i64 c] 30)], []⟩ := by rw [C.q3 H a b c, h]
theorem w11 (C : CF M) (c62 : ∀ (l : List Str) cap h, l.length < 1000000 → (∀ s ∈ l, s.length < 1000000) → M.ext 62 [.vs (strs l) l.length cap] h = some ⟨.int .i64 (athE l), h, []⟩) (l : List Str) (t f m : Int) (hl : l.length < 1000000) (hL : ∀ s ∈ l, s.length < 1000000) :
    Run M 11 [.agg [.vs (strs l) l.length cap, .int .i64 t, .int .i64 f, .int .i64 m]] [] ⟨.int .i64 (contestE l t f m), [], []⟩ := by
  have q := fun h => c62 l cap h hl hL
  have lit := C.lit3 [some (.cells [.vs (strs l) l.length cap, .int .i64 t, .int .i64 f, .int .i64 m] 32)]
  have f1 : ∀ a b c : Int, a ≠ 0 → firstNZ [a, b, c] = a := fun a b c h => by simp [firstNZ, h]
  have f2 : ∀ b c : Int, b ≠ 0 → firstNZ [0, b, c] = b := fun b c h => by simp [firstNZ, h]
  refine run_of_W (by rw [C.ft]; exact ft11) (by simp) ?_
  unfold b11
  simp only [List.map_cons, List.map_nil, List.getElem?_cons_zero, List.getElem?_cons_succ, List.getElem?_nil, Option.getD_some, Option.getD_none]
  by_cases h0 : athE l = 0
  · rw [h0] at q
    by_cases ht : outI t 1 6 = true
    · have q63 := C.c63 t 1 6
      rw [if_pos ht] at q63
      have ql := fun c => lit 0 3 c 3 (f2 3 c (by decide))
      have ht' := outI_iff.1 ht
      repeat' first | apply W.seq | apply SQn | apply W.region | apply WO.nil | apply W.ret | apply SQr | apply W.draw | apply WD.nil | (apply WD.pure1; exact rfl) | (apply WD.load1; exact rfl; exact rfl; exact rfl) | (apply WD.new1; exact rfl) | (apply W.condT; exact rfl) | (apply WO.neq; exact rfl; exact rfl; all_goals first | (intro _; exfalso; omega) | intro _) | (apply WD.cl0; exact rfl; exact rfl; exact rfl; first | exact q _ | exact q63 _ | exact C.c63 _ _ _ _ | exact ql _) | (apply WO.hlv; exact rfl; exact rfl; exact rfl) | (apply WO.hpv; exact rfl; exact rfl; exact rfl) | (apply WO.pl; exact rfl; exact rfl) | (apply WO.pp; exact rfl; exact rfl)
      all_goals first | (exfalso; omega) | exact ⟨.inr rfl, rfl, _, rfl, congrArg (AV.int .i64) (by unfold contestE; (repeat' split) <;> first | rfl | (exfalso; omega)), rfl⟩
    · have q63 := C.c63 t 1 6
      rw [if_neg ht] at q63
      have ht' : ¬ (t < 1 ∨ 6 < t) := fun h => ht (outI_iff.2 h)
      by_cases hm : outI m 0 (6 - t) = true
      · have q63' := C.c63 m 0 (6 - t)
        rw [if_pos hm] at q63'
        have hm' := outI_iff.1 hm
        have ql := lit 0 0 3 3 rfl
        repeat' first | apply W.seq | apply SQn | apply W.region | apply WO.nil | apply W.ret | apply SQr | apply W.draw | apply WD.nil | (apply WD.pure1; exact rfl) | (apply WD.load1; exact rfl; exact rfl; exact rfl) | (apply WD.new1; exact rfl) | (apply W.condT; exact rfl) | (apply WO.neq; exact rfl; exact rfl; all_goals first | (intro _; exfalso; omega) | intro _) | (apply WO.sub; exact rfl; exact rfl; omega) | (apply WD.cl0; exact rfl; exact rfl; exact rfl; first | exact q _ | exact q63 _ | exact q63' _ | exact ql) | (apply WO.hlv; exact rfl; exact rfl; exact rfl) | (apply WO.hpv; exact rfl; exact rfl; exact rfl) | (apply WO.pl; exact rfl; exact rfl) | (apply WO.pp; exact rfl; exact rfl)
        all_goals first | (exfalso; omega) | exact ⟨.inr rfl, rfl, _, rfl, congrArg (AV.int .i64) (by unfold contestE; (repeat' split) <;> first | rfl | (exfalso; omega)), rfl⟩
      · have q63' := C.c63 m 0 (6 - t)
        rw [if_neg hm] at q63'
        have hm' : ¬ (m < 0 ∨ 6 - t < m) := fun h => hm (outI_iff.2 h)
        have ql := lit 0 0 0 0 rfl
        by_cases h1 : m = 0
        · subst h1
          by_cases hf : f = 0
          · have q64 : ∀ h, M.ext 64 [.bool false, .int .i64 3] h = some ⟨.int .i64 0, h, []⟩ := C.c64 false 3
            repeat' first | apply W.seq | apply SQn | apply W.region | apply WO.nil | apply W.ret | apply W.skip | apply SQr | apply W.draw | apply WD.nil | (apply WD.pure1; exact rfl) | (apply WD.load1; exact rfl; exact rfl; exact rfl) | (apply WD.new1; exact rfl) | (apply W.condT; exact rfl) | (apply W.condF; exact rfl) | (apply WO.eql; exact rfl; exact rfl; all_goals first | (intro _; exfalso; omega) | intro _) | (apply WO.neq; exact rfl; exact rfl; all_goals first | (intro _; exfalso; omega) | intro _) | (apply WO.sub; exact rfl; exact rfl; omega) | (apply WO.cll; exact rfl; exact rfl; first | exact q _ | exact q63 _ | exact q63' _ | exact ql | exact q64 _) | (apply WD.cl0; exact rfl; exact rfl; exact rfl; first | exact q _ | exact q63 _ | exact q63' _ | exact ql | exact q64 _) | (apply WO.hlv; exact rfl; exact rfl; exact rfl) | (apply WO.hpv; exact rfl; exact rfl; exact rfl) | (apply WO.pl; exact rfl; exact rfl) | (apply WO.pp; exact rfl; exact rfl)
            all_goals first | (exfalso; omega) | exact ⟨.inr rfl, rfl, _, rfl, congrArg (AV.int .i64) (by unfold contestE; (repeat' split) <;> first | rfl | (exfalso; omega)), rfl⟩
          · have q64 : ∀ h, M.ext 64 [.bool true, .int .i64 3] h = some ⟨.int .i64 3, h, []⟩ := C.c64 true 3
            repeat' first | apply W.seq | apply SQn | apply W.region | apply WO.nil | apply W.ret | apply W.skip | apply SQr | apply W.draw | apply WD.nil | (apply WD.pure1; exact rfl) | (apply WD.load1; exact rfl; exact rfl; exact rfl) | (apply WD.new1; exact rfl) | (apply W.condT; exact rfl) | (apply W.condF; exact rfl) | (apply WO.eql; exact rfl; exact rfl; all_goals first | (intro _; exfalso; omega) | intro _) | (apply WO.neq; exact rfl; exact rfl; all_goals first | (intro _; exfalso; omega) | intro _) | (apply WO.sub; exact rfl; exact rfl; omega) | (apply WO.cll; exact rfl; exact rfl; first | exact q _ | exact q63 _ | exact q63' _ | exact ql | exact q64 _) | (apply WD.cl0; exact rfl; exact rfl; exact rfl; first | exact q _ | exact q63 _ | exact q63' _ | exact ql | exact q64 _) | (apply WO.hlv; exact rfl; exact rfl; exact rfl) | (apply WO.hpv; exact rfl; exact rfl; exact rfl) | (apply WO.pl; exact rfl; exact rfl) | (apply WO.pp; exact rfl; exact rfl)
            all_goals first | (exfalso; omega) | exact ⟨.inr rfl, rfl, _, rfl, congrArg (AV.int .i64) (by unfold contestE; (repeat' split) <;> first | rfl | (exfalso; omega)), rfl⟩
        · by_cases hf : outI f 1 32 = true
          · have q63f := C.c63 f 1 32
            rw [if_pos hf] at q63f
            have hf' := outI_iff.1 hf
            repeat' first | apply W.seq | apply SQn | apply W.region | apply WO.nil | apply W.ret | apply W.skip | apply W.draw | apply WD.nil | (apply WD.pure1; exact rfl) | (apply WD.load1; exact rfl; exact rfl; exact rfl) | (apply WD.new1; exact rfl) | (apply W.condF; exact rfl) | (apply WO.eql; exact rfl; exact rfl; all_goals first | (intro _; exfalso; omega) | intro _) | (apply WO.neq; exact rfl; exact rfl; all_goals first | (intro _; exfalso; omega) | intro _) | (apply WO.sub; exact rfl; exact rfl; omega) | (apply WO.cll; exact rfl; exact rfl; first | exact q _ | exact q63 _ | exact q63' _ | exact ql | exact q63f _) | (apply WD.cl0; exact rfl; exact rfl; exact rfl; first | exact q _ | exact q63 _ | exact q63' _ | exact ql | exact q63f _) | (apply WO.hlv; exact rfl; exact rfl; exact rfl) | (apply WO.hpv; exact rfl; exact rfl; exact rfl) | (apply WO.pl; exact rfl; exact rfl) | (apply WO.pp; exact rfl; exact rfl)
            all_goals first | (exfalso; omega) | exact ⟨.inr rfl, rfl, _, rfl, congrArg (AV.int .i64) (by unfold contestE; (repeat' split) <;> first | rfl | (exfalso; omega)), rfl⟩
          · have q63f := C.c63 f 1 32
            rw [if_neg hf] at q63f
            have hf' : ¬ (f < 1 ∨ 32 < f) := fun h => hf (outI_iff.2 h)
            repeat' first | apply W.seq | apply SQn | apply W.region | apply WO.nil | apply W.ret | apply W.skip | apply W.draw | apply WD.nil | (apply WD.pure1; exact rfl) | (apply WD.load1; exact rfl; exact rfl; exact rfl) | (apply WD.new1; exact rfl) | (apply W.condF; exact rfl) | (apply WO.eql; exact rfl; exact rfl; all_goals first | (intro _; exfalso; omega) | intro _) | (apply WO.neq; exact rfl; exact rfl; all_goals first | (intro _; exfalso; omega) | intro _) | (apply WO.sub; exact rfl; exact rfl; omega) | (apply WO.cll; exact rfl; exact rfl; first | exact q _ | exact q63 _ | exact q63' _ | exact ql | exact q63f _) | (apply WD.cl0; exact rfl; exact rfl; exact rfl; first | exact q _ | exact q63 _ | exact q63' _ | exact ql | exact q63f _) | (apply WO.hlv; exact rfl; exact rfl; exact rfl) | (apply WO.hpv; exact rfl; exact rfl; exact rfl) | (apply WO.pl; exact rfl; exact rfl) | (apply WO.pp; exact rfl; exact rfl)
            all_goals first | (exfalso; omega) | exact ⟨.inr rfl, rfl, _, rfl, congrArg (AV.int .i64) (by unfold contestE; (repeat' split) <;> first | rfl | (exfalso; omega)), rfl⟩
  · have e : contestE l t f m = athE l := by unfold contestE; rw [if_pos h0]
    rw [e]
    generalize athE l = z at *
    have ql := fun b c => lit z b c z (f1 z b c h0)
    repeat' first | apply W.seq | apply SQn | apply W.region | apply WO.nil | apply W.ret | apply SQr | apply W.draw | apply WD.nil | (apply WD.pure1; exact rfl) | (apply WD.load1; exact rfl; exact rfl; exact rfl) | (apply WD.new1; exact rfl) | (apply W.condT; exact rfl) | (apply WO.neq; exact rfl; exact rfl; all_goals first | (intro _; exfalso; omega) | intro _) | (apply WD.cl0; exact rfl; exact rfl; exact rfl; first | exact q _ | exact C.c63 _ _ _ _ | exact ql _ _) | (apply WO.hlv; exact rfl; exact rfl; exact rfl) | (apply WO.hpv; exact rfl; exact rfl; exact rfl) | (apply WO.pl; exact rfl; exact rfl) | (apply WO.pp; exact rfl; exact rfl)
    all_goals first | (exfalso; omega) | exact ⟨.inr rfl, rfl, _, rfl, rfl, rfl⟩
end Go.Ab.Ch6

/-
  Own work: chapter 6: the errors of heights, by both.
-/
namespace Go.Ab.Ch6
variable {M : Mach} {cap c1 c2 : Option Nat}
end Go.Ab.Ch6

/-
  Own work: chapter 6: the law FieldChecks.
-/
namespace Go.Ab.Ch6
variable {M : Mach}
end Go.Ab.Ch6

/-
  Own work: the contracts of FieldChecks as a table.
-/
namespace Go.Ab.Ch6
open Go.Proofs
def shortL (l : List Str) : Bool := l.all fun s => decide (s.length < 1000000)
theorem shortL_mem {l : List Str} (h : shortL l = true) : ∀ s ∈ l, s.length < 1000000 := fun s hs => by
  have := List.all_eq_true.1 h s hs
  simpa using this
theorem shortL_of {l : List Str} (h : ∀ s ∈ l, s.length < 1000000) : shortL l = true := by
  rw [shortL, List.all_eq_true]
  intro s hs
  simpa using h s hs
def specAwake : Spec := spec0 [] (.bool true)
theorem awake10 : SpecOK Tryz.prog gl 10 specAwake := spec0_ok gl_top rfl rfl oAwake
def specWhen : Spec := fun
  | [.bool t, .int .i64 e], h => some ⟨.int .i64 (if t then e else 0), h, []⟩
  | _, _ => none
theorem when64 : SpecOK Tryz.prog gl 64 specWhen := by
  intro xs h r hq
  unfold specWhen at hq
  split at hq
  · cases hq
    exact ent_run0 seat tab_nil (w64 (M := mach Tryz.prog FT []) mach_ft _ _) (FrL.same rfl) rfl (.inl rfl)
  · cases hq
def specRange : Spec := fun
  | [.int .i64 x, .int .i64 lo, .int .i64 hi], h => some ⟨.int .i64 (if outI x lo hi then 3 else 0), h, []⟩
  | _, _ => none
theorem range63 : SpecOK Tryz.prog gl 63 specRange := by
  intro xs h r hq
  unfold specRange at hq
  split at hq
  · cases hq
    exact ent_run0 seat (T := [(64, specWhen)]) (tab_cons when64 tab_nil) (w63 mach_ft (fun _ _ _ => by rw [mach_ext]; rfl) _ _ _) (FrL.same rfl) rfl (.inl rfl)
  · cases hq
def specFirst : Spec := fun
  | [v], h => match intsAt h v with
    | some l => if l.length < 4611686018427387904 then some ⟨.int .i64 (firstNZ l), h, []⟩ else none
    | none => none
  | _, _ => none
theorem first61 : SpecOK Tryz.prog gl 61 specFirst := by
  intro xs h r hq
  unfold specFirst at hq
  split at hq
  · split at hq
    · rename_i l hl
      split at hq
      · rename_i hn
        cases hq
        obtain ⟨S, cap, hf⟩ := (intsAt_sl hl).fr (fun _ => rfl)
        exact ent_run0 seat tab_nil (w61 (M := mach Tryz.prog FT []) mach_ft l hn) (.cons hf .nil) rfl (.inr rfl)
      · cases hq
    · cases hq
  · cases hq
def specName : Spec := fun
  | [.str s], h => if s.length < 1000000 then some ⟨.bool (isName s), h, []⟩ else none
  | _, _ => none
theorem name67 : SpecOK Tryz.prog gl 67 specName := by
  intro xs h r hq
  unfold specName at hq
  split at hq
  · split at hq
    · rename_i hn
      cases hq
      exact ent_run0 seat tab_nil (w67 (M := mach Tryz.prog FT []) mach_ft _ (by omega)) (FrL.same rfl) rfl (.inl rfl)
    · cases hq
  · cases hq
theorem name68 : SpecOK Tryz.prog gl 68 specName := by
  intro xs h r hq
  unfold specName at hq
  split at hq
  · split at hq
    · rename_i hn
      cases hq
      exact ent_run0 seat tab_nil (w68 (M := mach Tryz.prog FT []) mach_ft _ hn) (FrL.same rfl) rfl (.inl rfl)
    · cases hq
  · cases hq
def specIndex : Spec := fun
  | [v, .str x], h => match strsAt h v with
    | some l => if l.length < 4611686018427387904 then some ⟨.int .i64 (indexOf x l 0), h, []⟩ else none
    | none => none
  | _, _ => none
theorem index186 : SpecOK Tryz.prog gl 186 specIndex := by
  intro xs h r hq
  unfold specIndex at hq
  split at hq
  · split at hq
    · rename_i l hl
      split at hq
      · rename_i hlen
        cases hq
        obtain ⟨S, cap, hf⟩ := (strsAt_sl hl).fr (fun _ => rfl)
        exact ent_run0 seat tab_nil (w186 (M := mach Tryz.prog FT []) mach_ft l _ cap hlen) (.cons hf (.cons (.same rfl) .nil)) rfl (.inr rfl)
      · cases hq
    · cases hq
  · cases hq
def T186 : List (Nat × Spec) := [(186, specIndex)]
def specContains : Spec := fun
  | [v, .str x], h => match strsAt h v with
    | some l => if l.length < 4611686018427387904 then some ⟨.bool (decide (x ∈ l)), h, []⟩ else none
    | none => none
  | _, _ => none
theorem contains126 : SpecOK Tryz.prog gl 126 specContains := by
  intro xs h r hq
  unfold specContains at hq
  split at hq
  · split at hq
    · rename_i l hl
      split at hq
      · rename_i hlen
        cases hq
        obtain ⟨S, cap, hf⟩ := (strsAt_sl hl).fr (fun _ => rfl)
        refine ent_run0 seat (T := T186) (tab_cons index186 tab_nil) (w126 mach_ft (fun l cap x h hl => ?_) l _ cap hlen) (.cons hf (.cons (.same rfl) .nil)) rfl (.inr rfl)
        rw [mach_ext]
        show specIndex [.vs (strs l) l.length cap, .str x] h = _
        simp only [specIndex, strsAt_vs, if_pos hl]
      · cases hq
    · cases hq
  · cases hq
def TCF : List (Nat × Spec) := [(64, specWhen), (63, specRange), (61, specFirst), (67, specName), (126, specContains)]
theorem TCF_ok : ExtOK Tryz.prog gl (extS TCF) := tab_cons when64 (tab_cons range63 (tab_cons first61 (tab_cons name67 (tab_cons contains126 tab_nil))))
theorem cf {T : List (Nat × Spec)} : CF (mach Tryz.prog FT ((64, specWhen) :: (63, specRange) :: (61, specFirst) :: T)) where
  ft := mach_ft
  c64 _ _ _ := by rw [mach_ext]; rfl
  c63 _ _ _ _ := by rw [mach_ext]; rfl
  c61 v l h hl hn := by
    rw [mach_ext]
    show specFirst [v] h = _
    simp only [specFirst, hl, if_pos hn]
def specNameE : Spec := fun
  | [v, .int .i64 n], h => match strsAt h v with
    | some l => if l.length < 1000000 ∧ shortL l = true ∧ 0 ≤ n ∧ n.toNat < l.length then some ⟨.int .i64 (nameE l n.toNat), h, []⟩ else none
    | none => none
  | _, _ => none
theorem specNameE_vs {l : List Str} {cap : Option Nat} {i : Nat} {h : Heap} (hl : l.length < 1000000) (hL : ∀ s ∈ l, s.length < 1000000) (hi : i < l.length) : specNameE [.vs (strs l) l.length cap, .int .i64 i] h = some ⟨.int .i64 (nameE l i), h, []⟩ := by
  simp only [specNameE, strsAt_vs, Int.toNat_natCast]
  rw [if_pos ⟨hl, shortL_of hL, by omega, hi⟩]
theorem nameE_ok {g : Nat} {T : List (Nat × Spec)} (hT : ExtOK Tryz.prog gl (extS T)) (hr : ∀ (l : List Str) cap (i : Nat), l.length < 1000000 → (∀ s ∈ l, s.length < 1000000) → i < l.length → Run (mach Tryz.prog FT T) g [.vs (strs l) l.length cap, .int .i64 i] [] ⟨.int .i64 (nameE l i), [], []⟩) : SpecOK Tryz.prog gl g specNameE := by
  intro xs h r hq
  unfold specNameE at hq
  split at hq
  · rename_i n
    split at hq
    · rename_i l hl
      split at hq
      · rename_i hc
        obtain ⟨h1, h2, h3, h4⟩ := hc
        cases hq
        obtain ⟨S, cap, hf⟩ := (strsAt_sl hl).fr (fun _ => rfl)
        have e : ((n.toNat : Nat) : Int) = n := by omega
        have := hr l cap n.toNat h1 (shortL_mem h2) h4
        rw [e] at this
        exact ent_run0 seat hT this (.cons hf (.cons (.same rfl) .nil)) rfl (.inr rfl)
      · cases hq
    · cases hq
  · cases hq
theorem name76 : SpecOK Tryz.prog gl 76 specNameE := nameE_ok TCF_ok fun l cap i hl hL hi => w76 cf (fun s h hs => by
    rw [mach_ext]
    show specName [.str s] h = _
    simp only [specName, if_pos hs]) (fun l x cap h hl => by
    rw [mach_ext]
    show specContains [.vs (strs l) l.length cap, .str x] h = _
    simp only [specContains, strsAt_vs]
    rw [if_pos (by omega)]) l hl hL i hi
def T68 : List (Nat × Spec) := [(68, specName)]
theorem name73 : SpecOK Tryz.prog gl 73 specNameE := nameE_ok (T := T68) (tab_cons name68 tab_nil) fun l cap i hl hL hi => w73 mach_ft (fun s h hs => by
    rw [mach_ext]
    show specName [.str s] h = _
    simp only [specName, if_pos hs]) l hl hL i hi
def specStrs (f : List Str → Int) : Spec := fun
  | [v], h => match strsAt h v with
    | some l => if l.length < 1000000 ∧ shortL l = true then some ⟨.int .i64 (f l), h, []⟩ else none
    | none => none
  | _, _ => none
theorem specStrs_vs {f : List Str → Int} {l : List Str} {cap : Option Nat} {h : Heap} (hl : l.length < 1000000) (hL : ∀ s ∈ l, s.length < 1000000) : specStrs f [.vs (strs l) l.length cap] h = some ⟨.int .i64 (f l), h, []⟩ := by
  simp only [specStrs, strsAt_vs]
  rw [if_pos ⟨hl, shortL_of hL⟩]
theorem strs_ok {g : Nat} {f : List Str → Int} {T : List (Nat × Spec)} (hT : ExtOK Tryz.prog gl (extS T)) (hr : ∀ (l : List Str) cap, l.length < 1000000 → (∀ s ∈ l, s.length < 1000000) → Run (mach Tryz.prog FT T) g [.vs (strs l) l.length cap] [] ⟨.int .i64 (f l), [], []⟩) : SpecOK Tryz.prog gl g (specStrs f) := by
  intro xs h r hq
  unfold specStrs at hq
  split at hq
  · split at hq
    · rename_i l hl
      split at hq
      · rename_i hc
        cases hq
        obtain ⟨S, cap, hf⟩ := (strsAt_sl hl).fr (fun _ => rfl)
        exact ent_run0 seat hT (hr l cap hc.1 (shortL_mem hc.2)) (.cons hf .nil) rfl (.inr rfl)
      · cases hq
    · cases hq
  · cases hq
def TC62 : List (Nat × Spec) := [(64, specWhen), (63, specRange), (61, specFirst), (76, specNameE)]
theorem TC62_ok : ExtOK Tryz.prog gl (extS TC62) := tab_cons when64 (tab_cons range63 (tab_cons first61 (tab_cons name76 tab_nil)))
theorem ath62 : SpecOK Tryz.prog gl 62 (specStrs athE) := strs_ok TC62_ok fun l cap hl hL => w62 cf (fun l cap i h hl hL hi => by
    rw [mach_ext]; exact specNameE_vs hl hL hi) l hl hL
def T73 : List (Nat × Spec) := [(73, specNameE)]
theorem ath65 : SpecOK Tryz.prog gl 65 (specStrs athE) := strs_ok (T := T73) (tab_cons name73 tab_nil) fun l cap hl hL => w65 mach_ft (fun l cap i h hl hL hi => by
    rw [mach_ext]; exact specNameE_vs hl hL hi) l hl hL
def specShort : Spec := fun
  | [v], h => match strsAt h v with
    | some l => some ⟨.bool (shortN l), h, []⟩
    | none => none
  | _, _ => none
theorem short9 : SpecOK Tryz.prog gl 9 specShort := by
  intro xs h r hq
  unfold specShort at hq
  split at hq
  · split at hq
    · rename_i l hl
      cases hq
      obtain ⟨S, cap, hf⟩ := (strsAt_sl hl).fr (fun _ => rfl)
      exact ent_run0 seat tab_nil (w9 (M := mach Tryz.prog FT []) mach_ft l) (.cons hf .nil) rfl (.inr rfl)
    · cases hq
  · cases hq
theorem agg4_fr {h : Heap} {S : List Nat} {x y a b c : AV} (hx : Fr h S x y) (ha : a.top = 0) (hb : b.top = 0) (hc : c.top = 0) : Fr h S (.agg [x, a, b, c]) (.agg [y, a, b, c]) :=
  .agg rfl fun i p q hp hq => by
    match i, hp, hq with
    | 0, hp, hq => cases hp; cases hq; exact hx
    | 1, hp, hq => cases hp; cases hq; exact .same ha
    | 2, hp, hq => cases hp; cases hq; exact .same hb
    | 3, hp, hq => cases hp; cases hq; exact .same hc
def specContest : Spec := fun
  | [.agg [v, .int .i64 t, .int .i64 f, .int .i64 m]], h => match strsAt h v with
    | some l => if l.length < 1000000 ∧ shortL l = true then some ⟨.int .i64 (contestE l t f m), h, []⟩ else none
    | none => none
  | _, _ => none
theorem contest_ok {g : Nat} {T : List (Nat × Spec)} (hT : ExtOK Tryz.prog gl (extS T)) (hr : ∀ (l : List Str) cap t f m, l.length < 1000000 → (∀ s ∈ l, s.length < 1000000) → Run (mach Tryz.prog FT T) g [.agg [.vs (strs l) l.length cap, .int .i64 t, .int .i64 f, .int .i64 m]] [] ⟨.int .i64 (contestE l t f m), [], []⟩) : SpecOK Tryz.prog gl g specContest := by
  intro xs h r hq
  unfold specContest at hq
  split at hq
  · split at hq
    · rename_i l hl
      split at hq
      · rename_i hc
        cases hq
        obtain ⟨S, cap, hf⟩ := (strsAt_sl hl).fr (fun _ => rfl)
        exact ent_run0 seat hT (hr l cap _ _ _ hc.1 (shortL_mem hc.2)) (.cons (agg4_fr hf rfl rfl rfl) .nil) rfl (.inr rfl)
      · cases hq
    · cases hq
  · cases hq
def TC11 : List (Nat × Spec) := [(64, specWhen), (63, specRange), (61, specFirst), (62, specStrs athE)]
theorem TC11_ok : ExtOK Tryz.prog gl (extS TC11) := tab_cons when64 (tab_cons range63 (tab_cons first61 (tab_cons ath62 tab_nil)))
theorem contest11 : SpecOK Tryz.prog gl 11 specContest := contest_ok TC11_ok fun l cap t f m hl hL => w11 cf (fun l cap h hl hL => by
    rw [mach_ext]; exact specStrs_vs hl hL) l t f m hl hL
def T65 : List (Nat × Spec) := [(65, specStrs athE)]
theorem T65_ok : ExtOK Tryz.prog gl (extS T65) := tab_cons ath65 tab_nil
theorem contest12 : SpecOK Tryz.prog gl 12 specContest := contest_ok T65_ok fun l cap t f m hl hL => w12 mach_ft (fun l cap h hl hL => by
    rw [mach_ext]; exact specStrs_vs hl hL) l t f m hl hL
end Go.Ab.Ch6

/-
  Own work: the code of the functions that FieldActs needs.
-/
namespace Go.Ab.Ch6
set_option maxRecDepth 1000000
def b20_0 : ICode := .seq (.region [⟨.l 8, .bin .lss (.p 5) (.p 4), none⟩]) (.seq (.cond (.l 8) (.skip) (.exit 0)) (.seq (.block 1 (.seq (.region [⟨.l 9, .iaddr none 1 (.p 3) (.p 5), none⟩, ⟨.l 10, .load 1 false (.l 9), none⟩, ⟨.p 2, .mv (.l 10), none⟩]) (.seq (.region [⟨.l 11, .mv (.p 2), none⟩, ⟨.l 12, .bin .neq (.l 11) (.c (.int .i64 (0))), none⟩]) (.cond (.l 12) (.seq (.region [⟨.l 13, .mv (.p 2), none⟩, ⟨.p 1, .mv (.l 13), none⟩]) (.ret)) (.skip))))) (.region [⟨.l 14, .bin .add (.p 5) (.c (.int .i64 (1))), none⟩, ⟨.p 5, .mv (.l 14), none⟩])))
def b20 : ICode := .seq (.region [⟨.p 1, .mv (.c (.int .i64 (0))), none⟩]) (.seq (.seq (.region [⟨.p 3, .mv (.p 0), none⟩, ⟨.p 4, .len .sl (.p 3), none⟩, ⟨.p 5, .mv (.c (.int .i64 (0))), none⟩]) (.block 0 (.loop b20_0))) (.seq (.region [⟨.p 1, .mv (.c (.int .i64 (0))), none⟩]) (.ret)))
theorem ft20 : FT 20 = some ⟨15, [0, 2, 4, 5, 6, 7], [.var (.p 1)], b20⟩ := by kernel_rfl
end Go.Ab.Ch6

/-
  Own work: acts of a competition: their errors, in plain words.
-/
namespace Go.Ab.Ch6
end Go.Ab.Ch6

/-
  Own work: acts: the kinds of acts, and what an act's check computes.
-/
namespace Go.Ab.Ch6
variable {M : Mach} {cap : Option Nat}
theorem loop20 (l : List Int) (hl : l.length < 4611686018427387904) {Q : Ex → StW → Prop} : ∀ (r i : Nat) (a2 : AV) (lo : List (Nat × AV)) (wr : List Nat), i + r = l.length →
    (firstNZ (l.drop i) = 0 → ∀ a2 lo wr, Q (.exit 0) ⟨⟨[.vs (ints l) l.length cap, .int .i64 0, a2, .vs (ints l) l.length cap, .int .i64 l.length, .int .i64 l.length], lo, [], []⟩, wr⟩) →
    (∀ a2 a5 lo wr, Q .ret ⟨⟨[.vs (ints l) l.length cap, .int .i64 (firstNZ (l.drop i)), a2, .vs (ints l) l.length cap, .int .i64 l.length, a5], lo, [], []⟩, wr⟩) →
    W M (.loop b20_0) ⟨⟨[.vs (ints l) l.length cap, .int .i64 0, a2, .vs (ints l) l.length cap, .int .i64 l.length, .int .i64 i], lo, [], []⟩, wr⟩ Q
  | 0, i, a2, lo, wr, hi, h1, h2 => by
    obtain rfl : i = l.length := by omega
    refine W.loop ?_
    unfold b20_0
    repeat' first | apply W.seq | apply SQn | apply W.region | apply WO.nil | apply W.exit | apply SQe | apply LQe | (apply W.condF; exact rfl) | (apply WO.lss; exact rfl; exact rfl; all_goals first | (intro _; exfalso; omega) | intro _)
    exact h1 (by simp [firstNZ]) _ _ _
  | r + 1, i, a2, lo, wr, hi, h1, h2 => by
    have e := firstNZ_drop (l := l) (i := (i : Int).toNat) (by omega)
    rw [Int.toNat_natCast] at e
    refine W.loop ?_
    unfold b20_0
    repeat' first | apply W.seq | apply SQn | apply W.region | apply WO.nil | apply W.block | apply W.ret | apply W.skip | apply SQr | apply BQn | apply BQr | apply LQr | (apply W.condT; exact rfl) | (apply W.condF; exact rfl) | (apply WO.lss; exact rfl; exact rfl; all_goals first | (intro _; exfalso; omega) | intro _) | (apply WO.neq; exact rfl; exact rfl; all_goals first | (intro _; exfalso; omega) | intro _) | (apply WO.add; exact rfl; exact rfl; omega) | (apply WO.iav; exact rfl; exact rfl; omega) | (apply WO.lda; exact rfl; exact fun _ => rfl; (first | omega | (simp only [List.length_set]; omega) | (simp; omega)); decide; exact rfl; case ia => infer_instance) | (apply WO.pl; exact rfl; exact rfl) | (apply WO.pp; exact rfl; exact rfl)
    · rename_i he
      rw [Int.toNat_natCast] at he
      rw [if_neg he] at e
      rw [e] at h2
      exact h2 _ _ _ _
    · rename_i he
      rw [Int.toNat_natCast] at he
      rw [if_pos he] at e
      rw [e] at h1 h2
      exact LQn (loop20 l hl r (i + 1) _ _ _ (by omega) h1 h2)
theorem w20 (hft : M.FT = FT) (l : List Int) (hl : l.length < 4611686018427387904) : Run M 20 [.vs (ints l) l.length cap] [] ⟨.int .i64 (firstNZ l), [], []⟩ := by
  refine run_of_W (by rw [hft]; exact ft20) (by simp) ?_
  unfold b20
  simp only [List.map_cons, List.map_nil, List.getElem?_cons_zero, List.getElem?_cons_succ, List.getElem?_nil, Option.getD_some, Option.getD_none]
  repeat' first | apply W.seq | apply SQn | apply W.region | apply WO.nil | apply W.block | (apply WO.pp; exact rfl; exact rfl)
  refine loop20 l hl l.length 0 _ _ _ (by omega) (fun h a2 lo wr => ?_) (fun a2 a5 lo wr => ?_)
  · repeat' first | apply W.seq | apply SQn | apply W.region | apply WO.nil | apply W.ret | apply BQe | (apply WO.pp; exact rfl; exact rfl)
    exact ⟨.inr rfl, rfl, _, rfl, by rw [List.drop_zero] at h; rw [h]; rfl, rfl⟩
  · repeat' first | apply SQr | apply BQr
    exact ⟨.inr rfl, rfl, _, rfl, rfl, rfl⟩
end Go.Ab.Ch6

/-
  Own work: acts: field.CheckAct and the reference's.
-/
namespace Go.Ab.Ch6
variable {M : Mach}
end Go.Ab.Ch6

/-
  Own work: acts: the reference's check, and the checks of lists.
-/
namespace Go.Ab.Ch6
variable {M : Mach} {cap : Option Nat}
end Go.Ab.Ch6

/-
  Own work: acts: lists of acts, checked, copied, corrected.
-/
namespace Go.Ab.Ch6
variable {M : Mach} {cap : Option Nat}
end Go.Ab.Ch6

/-
  Own work: chapter 6: the law FieldActs.
-/
namespace Go.Ab.Ch6
variable {M : Mach}
end Go.Ab.Ch6

/-
  Own work: chapter 6: the law FieldActs: a round without an error, and the whole.
-/
namespace Go.Ab.Ch6
variable {M : Mach}
end Go.Ab.Ch6

/-
  Own work: the contracts of FieldActs xs a table.
-/
namespace Go.Ab.Ch6
open Go.Proofs
theorem first20 : SpecOK Tryz.prog gl 20 specFirst := by
  intro xs h r hq
  unfold specFirst at hq
  split at hq
  · split at hq
    · rename_i l hl
      split at hq
      · rename_i hn
        cases hq
        obtain ⟨S, cap, hf⟩ := (intsAt_sl hl).fr (fun _ => rfl)
        exact ent_run0 seat tab_nil (w20 (M := mach Tryz.prog FT []) mach_ft l hn) (.cons hf .nil) rfl (.inr rfl)
      · cases hq
    · cases hq
  · cases hq
end Go.Ab.Ch6

/-
  Own work: the code of the functions that FieldFinalists needs.
-/
namespace Go.Ab.Ch6
set_option maxRecDepth 1000000
def b22_0 : ICode := .seq (.region [⟨.l 11, .bin .lss (.p 5) (.p 4), none⟩]) (.seq (.cond (.l 11) (.skip) (.exit 0)) (.seq (.block 1 (.seq (.region [⟨.l 12, .iaddr none 3 (.p 3) (.p 5), none⟩, ⟨.l 13, .load 3 true (.l 12), none⟩, ⟨.p 2, .alloc 145 [.str [], .nilsl, .bool false], none⟩, ⟨.no, .store 3 (.p 2) (.l 13), none⟩]) (.seq (.region [⟨.l 14, .faddr 0 (.p 2), none⟩, ⟨.l 15, .load 1 false (.l 14), none⟩, ⟨.l 16, .len .str (.l 15), none⟩, ⟨.l 17, .bin .gtr (.l 16) (.c (.int .i64 (40))), none⟩, ⟨.l 18, .mv (.l 17), none⟩, ⟨.l 19, .faddr 1 (.p 2), some ((.l 18), false)⟩, ⟨.l 20, .load 1 false (.l 19), some ((.l 18), false)⟩, ⟨.l 21, .len .sl (.l 20), some ((.l 18), false)⟩, ⟨.l 22, .bin .gtr (.l 21) (.c (.int .i64 (10))), some ((.l 18), false)⟩, ⟨.l 23, .pick (.l 18) (.c (.bool true)) (.l 22), none⟩]) (.cond (.l 23) (.seq (.region [⟨.p 1, .mv (.c (.bool false)), none⟩]) (.ret)) (.skip))))) (.region [⟨.l 24, .bin .add (.p 5) (.c (.int .i64 (1))), none⟩, ⟨.p 5, .mv (.l 24), none⟩])))
def b22 : ICode := .seq (.region [⟨.p 1, .mv (.c (.bool false)), none⟩]) (.seq (.seq (.region [⟨.l 5, .mv (.p 0), none⟩, ⟨.l 6, .len .sl (.l 5), none⟩, ⟨.l 7, .bin .gtr (.l 6) (.c (.int .i64 (35))), none⟩]) (.cond (.l 7) (.seq (.region [⟨.p 1, .mv (.c (.bool false)), none⟩]) (.ret)) (.skip))) (.seq (.seq (.region [⟨.p 3, .mv (.p 0), none⟩, ⟨.p 4, .len .sl (.p 3), none⟩, ⟨.p 5, .mv (.c (.int .i64 (0))), none⟩]) (.block 0 (.loop b22_0))) (.seq (.region [⟨.p 1, .mv (.c (.bool true)), none⟩]) (.ret))))
theorem ft22 : FT 22 = some ⟨25, [0, 2, 4, 8, 9, 10], [.var (.p 1)], b22⟩ := by kernel_rfl
def b24_0 : ICode := .seq (.region [⟨.l 9, .bin .lss (.p 6) (.p 5), none⟩]) (.seq (.cond (.l 9) (.skip) (.exit 0)) (.seq (.block 1 (.seq (.region [⟨.l 10, .iaddr none 3 (.p 4) (.p 6), none⟩, ⟨.l 11, .load 3 true (.l 10), none⟩, ⟨.p 3, .alloc 145 [.str [], .nilsl, .bool false], none⟩, ⟨.no, .store 3 (.p 3) (.l 11), none⟩]) (.seq (.region [⟨.l 12, .bslice 3 0 1 [.int .i64 (0)] [], none⟩, ⟨.l 13, .faddr 1 (.p 3), none⟩, ⟨.l 14, .load 1 false (.l 13), none⟩, ⟨.l 15, .append 3 1 8 (.l 12) (.l 14), none⟩, ⟨.l 16, .faddr 1 (.p 3), none⟩, ⟨.no, .store 1 (.l 16) (.l 15), none⟩]) (.region [⟨.l 17, .mv (.p 2), none⟩, ⟨.l 18, .load 3 true (.p 3), none⟩, ⟨.l 19, .bslice 113 1 3 [.str [], .nilsl, .bool false] [(0, 3, (.l 18))], none⟩, ⟨.l 20, .append 113 3 48 (.l 17) (.l 19), none⟩, ⟨.p 2, .mv (.l 20), none⟩])))) (.region [⟨.l 21, .bin .add (.p 6) (.c (.int .i64 (1))), none⟩, ⟨.p 6, .mv (.l 21), none⟩])))
def b24 : ICode := .seq (.region [⟨.p 1, .mv (.c (.nilsl)), none⟩]) (.seq (.region [⟨.p 2, .mv (.c (.nilsl)), none⟩]) (.seq (.seq (.region [⟨.p 4, .mv (.p 0), none⟩, ⟨.p 5, .len .sl (.p 4), none⟩, ⟨.p 6, .mv (.c (.int .i64 (0))), none⟩]) (.block 0 (.loop b24_0))) (.seq (.region [⟨.l 22, .mv (.p 2), none⟩, ⟨.p 1, .mv (.l 22), none⟩]) (.ret))))
theorem ft24 : FT 24 = some ⟨23, [0, 2, 3, 5, 6, 7, 8], [.var (.p 1)], b24⟩ := by kernel_rfl
def b27_0 : ICode := .seq (.region [⟨.l 14, .bin .lss (.p 9) (.p 8), none⟩]) (.seq (.cond (.l 14) (.skip) (.exit 0)) (.seq (.block 1 (.seq (.region [⟨.l 15, .mv (.p 9), none⟩, ⟨.l 16, .iaddr none 3 (.p 7) (.p 9), none⟩, ⟨.l 17, .load 3 true (.l 16), none⟩, ⟨.p 4, .alloc 113 [.str [], .nilsl, .bool false], none⟩, ⟨.p 3, .mv (.l 15), none⟩, ⟨.no, .store 3 (.p 4) (.l 17), none⟩]) (.seq (.region [⟨.l 18, .mv (.p 2), none⟩, ⟨.l 19, .faddr 0 (.p 4), none⟩, ⟨.l 20, .load 1 false (.l 19), none⟩, ⟨.l 21, .bslice 9 1 1 [.str []] [(0, 1, (.l 20))], none⟩, ⟨.l 22, .append 9 1 16 (.l 18) (.l 21), none⟩, ⟨.p 2, .mv (.l 22), none⟩]) (.seq (.region [⟨.l 23, .faddr 1 (.p 4), none⟩, ⟨.l 24, .load 1 false (.l 23), none⟩, ⟨.l 25, .call (.c (.fn (.func 74) [] [])) [(.l 24), (.c (.fn (.func 75) [] []))], none⟩, ⟨.p 5, .mv (.l 25), none⟩]) (.seq (.draw [(⟨.l 26, .mv (.p 2), none⟩, []), (⟨.l 27, .mv (.p 3), none⟩, [0]), (⟨.l 28, .call (.c (.fn (.func 76) [] [])) [(.l 26), (.l 27)], none⟩, []), (⟨.l 29, .faddr 1 (.p 4), none⟩, [0, 1, 2]), (⟨.l 30, .load 1 false (.l 29), none⟩, [0, 1, 2]), (⟨.l 31, .len .sl (.l 30), none⟩, [0, 1, 2]), (⟨.l 32, .bin .gtr (.l 31) (.c (.int .i64 (6))), none⟩, [0, 1, 2]), (⟨.l 33, .call (.c (.fn (.func 64) [] [])) [(.l 32), (.c (.int .i64 (5)))], none⟩, []), (⟨.l 34, .mv (.p 5), none⟩, [0, 1, 2, 3, 4, 5, 6, 7]), (⟨.l 35, .call (.c (.fn (.func 64) [] [])) [(.l 34), (.c (.int .i64 (3)))], none⟩, []), (⟨.l 36, .bslice 30 3 1 [.int .i64 (0)] [(0, 1, (.l 28)), (1, 1, (.l 33)), (2, 1, (.l 35))], none⟩, []), (⟨.l 37, .call (.c (.fn (.func 61) [] [])) [(.l 36)], none⟩, []), (⟨.p 6, .mv (.l 37), none⟩, [])]) (.seq (.region [⟨.l 38, .mv (.p 6), none⟩, ⟨.l 39, .bin .neq (.l 38) (.c (.int .i64 (0))), none⟩]) (.cond (.l 39) (.seq (.region [⟨.l 40, .mv (.p 6), none⟩, ⟨.p 1, .mv (.l 40), none⟩]) (.ret)) (.skip)))))))) (.region [⟨.l 41, .bin .add (.p 9) (.c (.int .i64 (1))), none⟩, ⟨.p 9, .mv (.l 41), none⟩])))
def b27 : ICode := .seq (.region [⟨.p 1, .mv (.c (.int .i64 (0))), none⟩]) (.seq (.seq (.region [⟨.l 8, .mv (.p 0), none⟩, ⟨.l 9, .len .sl (.l 8), none⟩, ⟨.l 10, .bin .gtr (.l 9) (.c (.int .i64 (32))), none⟩]) (.cond (.l 10) (.seq (.region [⟨.p 1, .mv (.c (.int .i64 (5))), none⟩]) (.ret)) (.skip))) (.seq (.region [⟨.p 2, .mv (.c (.nilsl)), none⟩]) (.seq (.seq (.region [⟨.p 7, .mv (.p 0), none⟩, ⟨.p 8, .len .sl (.p 7), none⟩, ⟨.p 9, .mv (.c (.int .i64 (0))), none⟩]) (.block 0 (.loop b27_0))) (.seq (.region [⟨.p 1, .mv (.c (.int .i64 (0))), none⟩]) (.ret)))))
theorem ft27 : FT 27 = some ⟨42, [0, 2, 3, 4, 5, 6, 7, 11, 12, 13], [.var (.p 1)], b27⟩ := by kernel_rfl
def b26_0 : ICode := .seq (.seq (.region [⟨.l 32, .mv (.p 5), none⟩, ⟨.l 33, .mv (.p 0), none⟩, ⟨.l 34, .mv (.p 3), none⟩, ⟨.l 35, .iaddr none 3 (.l 33) (.l 34), none⟩, ⟨.l 36, .faddr 1 (.l 35), none⟩, ⟨.l 37, .load 1 false (.l 36), none⟩, ⟨.l 38, .len .sl (.l 37), none⟩, ⟨.l 39, .bin .lss (.l 32) (.l 38), none⟩, ⟨.l 40, .mv (.l 39), none⟩, ⟨.l 41, .mv (.p 4), some ((.l 40), true)⟩, ⟨.l 42, .bin .eql (.l 41) (.c (.int .i64 (0))), some ((.l 40), true)⟩, ⟨.l 43, .pick (.l 40) (.l 42) (.c (.bool false)), none⟩]) (.cond (.l 43) (.skip) (.exit 2))) (.seq (.block 3 (.seq (.region [⟨.l 46, .mv (.p 0), none⟩, ⟨.l 47, .mv (.p 3), none⟩, ⟨.l 48, .iaddr none 3 (.l 46) (.l 47), none⟩, ⟨.l 49, .faddr 1 (.l 48), none⟩, ⟨.l 50, .load 1 false (.l 49), none⟩, ⟨.l 51, .mv (.p 5), none⟩, ⟨.l 52, .iaddr none 1 (.l 50) (.l 51), none⟩, ⟨.l 53, .load 1 false (.l 52), none⟩, ⟨.l 54, .bin .lss (.l 53) (.c (.int .i64 (-2))), none⟩, ⟨.l 55, .mv (.l 54), none⟩, ⟨.l 56, .mv (.p 0), some ((.l 55), false)⟩, ⟨.l 57, .mv (.p 3), some ((.l 55), false)⟩, ⟨.l 58, .iaddr none 3 (.l 56) (.l 57), some ((.l 55), false)⟩, ⟨.l 59, .faddr 1 (.l 58), some ((.l 55), false)⟩, ⟨.l 60, .load 1 false (.l 59), some ((.l 55), false)⟩, ⟨.l 61, .mv (.p 5), some ((.l 55), false)⟩, ⟨.l 62, .iaddr none 1 (.l 60) (.l 61), some ((.l 55), false)⟩, ⟨.l 63, .load 1 false (.l 62), some ((.l 55), false)⟩, ⟨.l 64, .bin .gtr (.l 63) (.c (.int .i64 (999999))), some ((.l 55), false)⟩, ⟨.l 65, .pick (.l 55) (.c (.bool true)) (.l 64), none⟩]) (.cond (.l 65) (.region [⟨.p 4, .mv (.c (.int .i64 (3))), none⟩]) (.skip)))) (.region [⟨.l 44, .mv (.p 5), none⟩, ⟨.l 45, .bin .add (.l 44) (.c (.int .i64 (1))), none⟩, ⟨.p 5, .mv (.l 45), none⟩]))
def b26_1 : ICode := .seq (.seq (.region [⟨.l 12, .mv (.p 3), none⟩, ⟨.l 13, .mv (.p 0), none⟩, ⟨.l 14, .len .sl (.l 13), none⟩, ⟨.l 15, .bin .lss (.l 12) (.l 14), none⟩]) (.cond (.l 15) (.skip) (.exit 0))) (.seq (.block 1 (.seq (.region [⟨.l 18, .mv (.p 2), none⟩, ⟨.l 19, .mv (.p 3), none⟩, ⟨.l 20, .call (.c (.fn (.func 73) [] [])) [(.l 18), (.l 19)], none⟩, ⟨.p 4, .mv (.l 20), none⟩]) (.seq (.seq (.region [⟨.l 21, .mv (.p 4), none⟩, ⟨.l 22, .bin .eql (.l 21) (.c (.int .i64 (0))), none⟩, ⟨.l 23, .mv (.l 22), none⟩, ⟨.l 24, .mv (.p 0), some ((.l 23), true)⟩, ⟨.l 25, .mv (.p 3), some ((.l 23), true)⟩, ⟨.l 26, .iaddr none 3 (.l 24) (.l 25), some ((.l 23), true)⟩, ⟨.l 27, .faddr 1 (.l 26), some ((.l 23), true)⟩, ⟨.l 28, .load 1 false (.l 27), some ((.l 23), true)⟩, ⟨.l 29, .len .sl (.l 28), some ((.l 23), true)⟩, ⟨.l 30, .bin .gtr (.l 29) (.c (.int .i64 (6))), some ((.l 23), true)⟩, ⟨.l 31, .pick (.l 23) (.l 30) (.c (.bool false)), none⟩]) (.cond (.l 31) (.region [⟨.p 4, .mv (.c (.int .i64 (5))), none⟩]) (.skip))) (.seq (.seq (.region [⟨.p 5, .mv (.c (.int .i64 (0))), none⟩]) (.block 2 (.loop b26_0))) (.seq (.region [⟨.l 66, .mv (.p 4), none⟩, ⟨.l 67, .bin .neq (.l 66) (.c (.int .i64 (0))), none⟩]) (.cond (.l 67) (.seq (.region [⟨.l 68, .mv (.p 4), none⟩, ⟨.p 1, .mv (.l 68), none⟩]) (.ret)) (.skip))))))) (.region [⟨.l 16, .mv (.p 3), none⟩, ⟨.l 17, .bin .add (.l 16) (.c (.int .i64 (1))), none⟩, ⟨.p 3, .mv (.l 17), none⟩]))
def b26 : ICode := .seq (.region [⟨.p 1, .mv (.c (.int .i64 (0))), none⟩]) (.seq (.seq (.region [⟨.l 7, .mv (.p 0), none⟩, ⟨.l 8, .len .sl (.l 7), none⟩, ⟨.l 9, .bin .gtr (.l 8) (.c (.int .i64 (32))), none⟩]) (.cond (.l 9) (.seq (.region [⟨.p 1, .mv (.c (.int .i64 (5))), none⟩]) (.ret)) (.skip))) (.seq (.region [⟨.l 10, .mv (.p 0), none⟩, ⟨.l 11, .call (.c (.fn (.func 72) [] [])) [(.l 10)], none⟩, ⟨.p 2, .mv (.l 11), none⟩]) (.seq (.seq (.region [⟨.p 3, .mv (.c (.int .i64 (0))), none⟩]) (.block 0 (.loop b26_1))) (.seq (.region [⟨.p 1, .mv (.c (.int .i64 (0))), none⟩]) (.ret)))))
theorem ft26 : FT 26 = some ⟨69, [0, 2, 3, 4, 5, 6], [.var (.p 1)], b26⟩ := by kernel_rfl
def b75 : ICode := .seq (.region [⟨.p 1, .mv (.c (.bool false)), none⟩]) (.seq (.region [⟨.l 3, .mv (.p 0), none⟩, ⟨.l 4, .bin .lss (.l 3) (.c (.int .i64 (-2))), none⟩, ⟨.l 5, .mv (.l 4), none⟩, ⟨.l 6, .mv (.p 0), some ((.l 5), false)⟩, ⟨.l 7, .bin .gtr (.l 6) (.c (.int .i64 (999999))), some ((.l 5), false)⟩, ⟨.l 8, .pick (.l 5) (.c (.bool true)) (.l 7), none⟩, ⟨.p 1, .mv (.l 8), none⟩]) (.ret))
theorem ft75 : FT 75 = some ⟨9, [0, 2], [.var (.p 1)], b75⟩ := by kernel_rfl
def b74 : ICode := .seq (.region [⟨.p 2, .mv (.c (.bool false)), none⟩]) (.seq (.region [⟨.l 5, .mv (.p 0), none⟩, ⟨.l 6, .mv (.p 1), none⟩, ⟨.l 7, .call (.c (.fn (.func 125) [] [])) [(.l 5), (.l 6)], none⟩, ⟨.l 8, .bin .geq (.l 7) (.c (.int .i64 (0))), none⟩, ⟨.p 2, .mv (.l 8), none⟩]) (.ret))
theorem ft74 : FT 74 = some ⟨9, [0, 1, 4], [.var (.p 2)], b74⟩ := by kernel_rfl
def b72_0 : ICode := .seq (.seq (.region [⟨.l 5, .mv (.p 3), none⟩, ⟨.l 6, .mv (.p 0), none⟩, ⟨.l 7, .len .sl (.l 6), none⟩, ⟨.l 8, .bin .lss (.l 5) (.l 7), none⟩]) (.cond (.l 8) (.skip) (.exit 0))) (.seq (.block 1 (.region [⟨.l 11, .mv (.p 2), none⟩, ⟨.l 12, .mv (.p 0), none⟩, ⟨.l 13, .mv (.p 3), none⟩, ⟨.l 14, .iaddr none 3 (.l 12) (.l 13), none⟩, ⟨.l 15, .faddr 0 (.l 14), none⟩, ⟨.l 16, .load 1 false (.l 15), none⟩, ⟨.l 17, .bslice 9 1 1 [.str []] [(0, 1, (.l 16))], none⟩, ⟨.l 18, .append 9 1 16 (.l 11) (.l 17), none⟩, ⟨.p 2, .mv (.l 18), none⟩])) (.region [⟨.l 9, .mv (.p 3), none⟩, ⟨.l 10, .bin .add (.l 9) (.c (.int .i64 (1))), none⟩, ⟨.p 3, .mv (.l 10), none⟩]))
def b72 : ICode := .seq (.region [⟨.p 1, .mv (.c (.nilsl)), none⟩]) (.seq (.region [⟨.p 2, .mv (.c (.nilsl)), none⟩]) (.seq (.seq (.region [⟨.p 3, .mv (.c (.int .i64 (0))), none⟩]) (.block 0 (.loop b72_0))) (.seq (.region [⟨.l 19, .mv (.p 2), none⟩, ⟨.p 1, .mv (.l 19), none⟩]) (.ret))))
theorem ft72 : FT 72 = some ⟨20, [0, 2, 3, 4], [.var (.p 1)], b72⟩ := by kernel_rfl
def b123_0 : ICode := .seq (.region [⟨.l 30, .bin .lss (.p 12) (.p 11), none⟩]) (.seq (.cond (.l 30) (.skip) (.exit 2)) (.seq (.block 3 (.seq (.region [⟨.l 31, .iaddr none 1 (.p 10) (.p 12), none⟩, ⟨.l 32, .load 1 false (.l 31), none⟩, ⟨.p 6, .mv (.l 32), none⟩]) (.seq (.region [⟨.l 33, .mv (.p 6), none⟩, ⟨.l 34, .call (.c (.fn (.func 185) [] [])) [(.l 33)], none⟩, ⟨.l 35, .mv (.p 5), none⟩, ⟨.l 36, .call (.c (.fn (.func 139) [] [])) [(.l 34), (.l 35)], none⟩, ⟨.l 37, .bin .gtr (.l 36) (.c (.int .i64 (0))), none⟩]) (.cond (.l 37) (.region [⟨.l 38, .mv (.p 2), none⟩, ⟨.l 39, .mv (.p 3), none⟩, ⟨.l 40, .iaddr none 1 (.l 38) (.l 39), none⟩, ⟨.l 41, .load 1 false (.l 40), none⟩, ⟨.l 42, .bin .add (.l 41) (.c (.int .i64 (1))), none⟩, ⟨.l 43, .iaddr none 1 (.l 38) (.l 39), none⟩, ⟨.no, .store 1 (.l 43) (.l 42), none⟩]) (.skip))))) (.region [⟨.l 44, .bin .add (.p 12) (.c (.int .i64 (1))), none⟩, ⟨.p 12, .mv (.l 44), none⟩])))
def b123_1 : ICode := .seq (.region [⟨.l 15, .bin .lss (.p 9) (.p 8), none⟩]) (.seq (.cond (.l 15) (.skip) (.exit 0)) (.seq (.block 1 (.seq (.region [⟨.l 16, .mv (.p 9), none⟩, ⟨.l 17, .iaddr none 1 (.p 7) (.p 9), none⟩, ⟨.l 18, .load 1 false (.l 17), none⟩, ⟨.p 3, .mv (.l 16), none⟩, ⟨.p 4, .mv (.l 18), none⟩]) (.seq (.region [⟨.l 19, .mv (.p 4), none⟩, ⟨.l 20, .call (.c (.fn (.func 185) [] [])) [(.l 19)], none⟩, ⟨.p 5, .mv (.l 20), none⟩]) (.seq (.seq (.region [⟨.l 21, .mv (.p 5), none⟩, ⟨.l 22, .len .sl (.l 21), none⟩, ⟨.l 23, .bin .eql (.l 22) (.c (.int .i64 (0))), none⟩]) (.cond (.l 23) (.exit 1) (.skip))) (.seq (.region [⟨.l 24, .mv (.p 2), none⟩, ⟨.l 25, .mv (.p 3), none⟩, ⟨.l 26, .iaddr none 1 (.l 24) (.l 25), none⟩, ⟨.no, .store 1 (.l 26) (.c (.int .i64 (1))), none⟩]) (.seq (.region [⟨.p 10, .mv (.p 0), none⟩, ⟨.p 11, .len .sl (.p 10), none⟩, ⟨.p 12, .mv (.c (.int .i64 (0))), none⟩]) (.block 2 (.loop b123_0)))))))) (.region [⟨.l 45, .bin .add (.p 9) (.c (.int .i64 (1))), none⟩, ⟨.p 9, .mv (.l 45), none⟩])))
def b123 : ICode := .seq (.region [⟨.p 1, .mv (.c (.nilsl)), none⟩]) (.seq (.region [⟨.l 9, .mv (.p 0), none⟩, ⟨.l 10, .len .sl (.l 9), none⟩, ⟨.l 11, .mkslice 3 1 8 [.int .i64 (0)] (.l 10) (.l 10), none⟩, ⟨.p 2, .mv (.l 11), none⟩]) (.seq (.seq (.region [⟨.p 7, .mv (.p 0), none⟩, ⟨.p 8, .len .sl (.p 7), none⟩, ⟨.p 9, .mv (.c (.int .i64 (0))), none⟩]) (.block 0 (.loop b123_1))) (.seq (.region [⟨.l 46, .mv (.p 2), none⟩, ⟨.p 1, .mv (.l 46), none⟩]) (.ret))))
theorem ft123 : FT 123 = some ⟨47, [0, 2, 3, 4, 5, 6, 8, 12, 13, 14, 27, 28, 29], [.var (.p 1)], b123⟩ := by kernel_rfl
def b185 : ICode := .seq (.region [⟨.p 1, .mv (.c (.nilsl)), none⟩]) (.seq (.region [⟨.l 3, .mv (.p 0), none⟩, ⟨.l 4, .call (.c (.fn (.func 223) [] [])) [(.l 3)], none⟩, ⟨.l 5, .call (.c (.fn (.func 222) [] [])) [(.l 4), (.c (.fn (.func 224) [] []))], none⟩, ⟨.p 0, .mv (.l 5), none⟩]) (.seq (.region [⟨.l 6, .mv (.p 0), none⟩, ⟨.l 7, .call (.c (.fn (.func 225) [] [])) [(.l 6), (.c (.fn (.func 226) [] []))], none⟩]) (.seq (.region [⟨.l 8, .mv (.p 0), none⟩, ⟨.p 1, .mv (.l 8), none⟩]) (.ret))))
theorem ft185 : FT 185 = some ⟨9, [0, 2], [.var (.p 1)], b185⟩ := by kernel_rfl
def b223 : ICode := .seq (.region [⟨.p 1, .mv (.c (.nilsl)), none⟩]) (.seq (.region [⟨.l 3, .mv (.p 0), none⟩, ⟨.l 4, .append 3 1 8 (.c (.nilsl)) (.l 3), none⟩, ⟨.p 1, .mv (.l 4), none⟩]) (.ret))
theorem ft223 : FT 223 = some ⟨5, [0, 2], [.var (.p 1)], b223⟩ := by kernel_rfl
def b222_0 : ICode := .seq (.seq (.region [⟨.l 16, .mv (.p 4), none⟩, ⟨.l 17, .mv (.p 0), none⟩, ⟨.l 18, .len .sl (.l 17), none⟩, ⟨.l 19, .bin .lss (.l 16) (.l 18), none⟩]) (.cond (.l 19) (.skip) (.exit 0))) (.seq (.block 1 (.seq (.region [⟨.l 22, .mv (.p 0), none⟩, ⟨.l 23, .mv (.p 4), none⟩, ⟨.l 24, .iaddr none 1 (.l 22) (.l 23), none⟩, ⟨.l 25, .load 1 false (.l 24), none⟩, ⟨.p 5, .mv (.l 25), none⟩]) (.seq (.region [⟨.l 26, .mv (.p 1), none⟩, ⟨.l 27, .mv (.p 5), none⟩, ⟨.l 28, .call (.l 26) [(.l 27)], none⟩, ⟨.l 29, .un .not (.l 28), none⟩]) (.cond (.l 29) (.seq (.region [⟨.l 30, .mv (.p 0), none⟩, ⟨.l 31, .mv (.p 3), none⟩, ⟨.l 32, .mv (.p 5), none⟩, ⟨.l 33, .iaddr none 1 (.l 30) (.l 31), none⟩, ⟨.no, .store 1 (.l 33) (.l 32), none⟩]) (.region [⟨.l 34, .mv (.p 3), none⟩, ⟨.l 35, .bin .add (.l 34) (.c (.int .i64 (1))), none⟩, ⟨.p 3, .mv (.l 35), none⟩])) (.skip))))) (.region [⟨.l 20, .mv (.p 4), none⟩, ⟨.l 21, .bin .add (.l 20) (.c (.int .i64 (1))), none⟩, ⟨.p 4, .mv (.l 21), none⟩]))
def b222 : ICode := .seq (.region [⟨.p 2, .mv (.c (.nilsl)), none⟩]) (.seq (.region [⟨.l 8, .mv (.p 0), none⟩, ⟨.l 9, .mv (.p 1), none⟩, ⟨.l 10, .call (.c (.fn (.func 125) [] [])) [(.l 8), (.l 9)], none⟩, ⟨.p 3, .mv (.l 10), none⟩]) (.seq (.seq (.region [⟨.l 11, .mv (.p 3), none⟩, ⟨.l 12, .bin .eql (.l 11) (.c (.int .i64 (-1))), none⟩]) (.cond (.l 12) (.seq (.region [⟨.l 13, .mv (.p 0), none⟩, ⟨.p 2, .mv (.l 13), none⟩]) (.ret)) (.skip))) (.seq (.seq (.region [⟨.l 14, .mv (.p 3), none⟩, ⟨.l 15, .bin .add (.l 14) (.c (.int .i64 (1))), none⟩, ⟨.p 4, .mv (.l 15), none⟩]) (.block 0 (.loop b222_0))) (.seq (.region [⟨.l 36, .mv (.p 0), none⟩, ⟨.l 37, .mv (.p 3), none⟩, ⟨.l 38, .slice .sl 1 (.l 36) (some (.l 37)) none none, none⟩, ⟨.no, .clr 1 [.int .i64 (0)] (.l 38), none⟩]) (.seq (.region [⟨.l 39, .mv (.p 0), none⟩, ⟨.l 40, .mv (.p 3), none⟩, ⟨.l 41, .slice .sl 1 (.l 39) none (some (.l 40)) none, none⟩, ⟨.p 2, .mv (.l 41), none⟩]) (.ret))))))
theorem ft222 : FT 222 = some ⟨42, [0, 1, 4, 5, 6, 7], [.var (.p 2)], b222⟩ := by kernel_rfl
def b224 : ICode := .seq (.region [⟨.p 1, .mv (.c (.bool false)), none⟩]) (.seq (.region [⟨.l 3, .mv (.p 0), none⟩, ⟨.l 4, .bin .lss (.l 3) (.c (.int .i64 (0))), none⟩, ⟨.p 1, .mv (.l 4), none⟩]) (.ret))
theorem ft224 : FT 224 = some ⟨5, [0, 2], [.var (.p 1)], b224⟩ := by kernel_rfl
def b125_0 : ICode := .seq (.region [⟨.l 9, .bin .lss (.p 5) (.p 4), none⟩]) (.seq (.cond (.l 9) (.skip) (.exit 0)) (.seq (.block 1 (.seq (.region [⟨.l 10, .mv (.p 5), none⟩, ⟨.p 3, .mv (.l 10), none⟩]) (.seq (.region [⟨.l 11, .mv (.p 1), none⟩, ⟨.l 12, .mv (.p 0), none⟩, ⟨.l 13, .mv (.p 3), none⟩, ⟨.l 14, .iaddr none 1 (.l 12) (.l 13), none⟩, ⟨.l 15, .load 1 false (.l 14), none⟩, ⟨.l 16, .call (.l 11) [(.l 15)], none⟩]) (.cond (.l 16) (.seq (.region [⟨.l 17, .mv (.p 3), none⟩, ⟨.p 2, .mv (.l 17), none⟩]) (.ret)) (.skip))))) (.region [⟨.l 18, .bin .add (.p 5) (.c (.int .i64 (1))), none⟩, ⟨.p 5, .mv (.l 18), none⟩])))
def b125 : ICode := .seq (.region [⟨.p 2, .mv (.c (.int .i64 (0))), none⟩]) (.seq (.seq (.region [⟨.l 6, .mv (.p 0), none⟩, ⟨.p 4, .len .sl (.l 6), none⟩, ⟨.p 5, .mv (.c (.int .i64 (0))), none⟩]) (.block 0 (.loop b125_0))) (.seq (.region [⟨.p 2, .mv (.c (.int .i64 (-1))), none⟩]) (.ret)))
theorem ft125 : FT 125 = some ⟨19, [0, 1, 4, 5, 7, 8], [.var (.p 2)], b125⟩ := by kernel_rfl
def b225 : ICode := .seq (.region [⟨.l 5, .mv (.p 0), none⟩, ⟨.l 6, .len .sl (.l 5), none⟩, ⟨.p 2, .mv (.l 6), none⟩]) (.region [⟨.l 7, .mv (.p 0), none⟩, ⟨.l 8, .mv (.p 2), none⟩, ⟨.l 9, .mv (.p 2), none⟩, ⟨.l 10, .convInt .u64 (.l 9), none⟩, ⟨.l 11, .call (.c (.fn (.func 251) [] [])) [(.l 10)], none⟩, ⟨.l 12, .mv (.p 1), none⟩, ⟨.l 13, .call (.c (.fn (.func 250) [] [])) [(.l 7), (.c (.int .i64 (0))), (.l 8), (.l 11), (.l 12)], none⟩])
theorem ft225 : FT 225 = some ⟨14, [0, 1, 4], [], b225⟩ := by kernel_rfl
def b226 : ICode := .seq (.region [⟨.p 2, .mv (.c (.int .i64 (0))), none⟩]) (.seq (.region [⟨.l 5, .mv (.p 1), none⟩, ⟨.l 6, .mv (.p 0), none⟩, ⟨.l 7, .bin .sub (.l 5) (.l 6), none⟩, ⟨.p 2, .mv (.l 7), none⟩]) (.ret))
theorem ft226 : FT 226 = some ⟨8, [0, 1, 4], [.var (.p 2)], b226⟩ := by kernel_rfl
def b227_0 : ICode := .seq (.seq (.draw [(⟨.l 18, .mv (.p 5), none⟩, []), (⟨.l 19, .mv (.p 1), none⟩, [0]), (⟨.l 20, .bin .gtr (.l 18) (.l 19), none⟩, []), (⟨.l 21, .mv (.l 20), none⟩, []), (⟨.l 22, .mv (.p 3), some ((.l 21), true)⟩, []), (⟨.l 23, .mv (.p 0), some ((.l 21), true)⟩, [4]), (⟨.l 24, .mv (.p 5), some ((.l 21), true)⟩, [4, 5]), (⟨.l 25, .iaddr none 1 (.l 23) (.l 24), some ((.l 21), true)⟩, [4]), (⟨.l 26, .load 1 false (.l 25), some ((.l 21), true)⟩, [4]), (⟨.l 27, .mv (.p 0), some ((.l 21), true)⟩, [4, 5, 6, 7, 8]), (⟨.l 28, .mv (.p 5), some ((.l 21), true)⟩, [4, 5, 6, 7, 8, 9]), (⟨.l 29, .bin .sub (.l 28) (.c (.int .i64 (1))), some ((.l 21), true)⟩, [4, 5, 6, 7, 8, 9]), (⟨.l 30, .iaddr none 1 (.l 27) (.l 29), some ((.l 21), true)⟩, [4, 5, 6, 7, 8]), (⟨.l 31, .load 1 false (.l 30), some ((.l 21), true)⟩, [4, 5, 6, 7, 8]), (⟨.l 32, .call (.l 22) [(.l 26), (.l 31)], some ((.l 21), true)⟩, []), (⟨.l 33, .bin .lss (.l 32) (.c (.int .i64 (0))), some ((.l 21), true)⟩, []), (⟨.l 34, .pick (.l 21) (.l 33) (.c (.bool false)), none⟩, [])]) (.cond (.l 34) (.skip) (.exit 2))) (.seq (.block 3 (.draw [(⟨.l 37, .mv (.p 0), none⟩, []), (⟨.l 38, .mv (.p 5), none⟩, [0]), (⟨.l 39, .mv (.p 0), none⟩, [0, 1]), (⟨.l 40, .mv (.p 5), none⟩, [0, 1, 2]), (⟨.l 41, .bin .sub (.l 40) (.c (.int .i64 (1))), none⟩, [0, 1, 2]), (⟨.l 42, .mv (.p 0), none⟩, [0, 1, 2, 3, 4]), (⟨.l 43, .mv (.p 5), none⟩, [0, 1, 2, 3, 4, 5]), (⟨.l 44, .bin .sub (.l 43) (.c (.int .i64 (1))), none⟩, [0, 1, 2, 3, 4, 5]), (⟨.l 45, .iaddr none 1 (.l 42) (.l 44), none⟩, [0, 1, 2, 3, 4]), (⟨.l 46, .load 1 false (.l 45), none⟩, [0, 1, 2, 3, 4]), (⟨.l 47, .mv (.p 0), none⟩, [0, 1, 2, 3, 4, 5, 6, 7, 8, 9]), (⟨.l 48, .mv (.p 5), none⟩, [0, 1, 2, 3, 4, 5, 6, 7, 8, 9, 10]), (⟨.l 49, .iaddr none 1 (.l 47) (.l 48), none⟩, [0, 1, 2, 3, 4, 5, 6, 7, 8, 9]), (⟨.l 50, .load 1 false (.l 49), none⟩, [0, 1, 2, 3, 4, 5, 6, 7, 8, 9]), (⟨.l 51, .iaddr none 1 (.l 37) (.l 38), none⟩, [2, 3, 4]), (⟨.no, .store 1 (.l 51) (.l 46), none⟩, [2, 3, 4]), (⟨.l 52, .iaddr none 1 (.l 39) (.l 41), none⟩, []), (⟨.no, .store 1 (.l 52) (.l 50), none⟩, [])])) (.region [⟨.l 35, .mv (.p 5), none⟩, ⟨.l 36, .bin .sub (.l 35) (.c (.int .i64 (1))), none⟩, ⟨.p 5, .mv (.l 36), none⟩]))
def b227_1 : ICode := .seq (.seq (.region [⟨.l 12, .mv (.p 4), none⟩, ⟨.l 13, .mv (.p 2), none⟩, ⟨.l 14, .bin .lss (.l 12) (.l 13), none⟩]) (.cond (.l 14) (.skip) (.exit 0))) (.seq (.block 1 (.seq (.region [⟨.l 17, .mv (.p 4), none⟩, ⟨.p 5, .mv (.l 17), none⟩]) (.block 2 (.loop b227_0)))) (.region [⟨.l 15, .mv (.p 4), none⟩, ⟨.l 16, .bin .add (.l 15) (.c (.int .i64 (1))), none⟩, ⟨.p 4, .mv (.l 16), none⟩]))
def b227 : ICode := .seq (.region [⟨.l 10, .mv (.p 1), none⟩, ⟨.l 11, .bin .add (.l 10) (.c (.int .i64 (1))), none⟩, ⟨.p 4, .mv (.l 11), none⟩]) (.block 0 (.loop b227_1))
theorem ft227 : FT 227 = some ⟨53, [0, 1, 2, 3, 8, 9], [], b227⟩ := by kernel_rfl
def b139_0 : ICode := .seq (.region [⟨.l 12, .bin .lss (.p 9) (.p 8), none⟩]) (.seq (.cond (.l 12) (.skip) (.exit 0)) (.seq (.block 1 (.seq (.region [⟨.l 13, .mv (.p 9), none⟩, ⟨.l 14, .iaddr none 1 (.p 7) (.p 9), none⟩, ⟨.l 15, .load 1 false (.l 14), none⟩, ⟨.p 3, .mv (.l 13), none⟩, ⟨.p 4, .mv (.l 15), none⟩]) (.seq (.seq (.region [⟨.l 16, .mv (.p 3), none⟩, ⟨.l 17, .mv (.p 1), none⟩, ⟨.l 18, .len .sl (.l 17), none⟩, ⟨.l 19, .bin .geq (.l 16) (.l 18), none⟩]) (.cond (.l 19) (.seq (.region [⟨.p 2, .mv (.c (.int .i64 (1))), none⟩]) (.ret)) (.skip))) (.seq (.region [⟨.l 20, .mv (.p 1), none⟩, ⟨.l 21, .mv (.p 3), none⟩, ⟨.l 22, .iaddr none 1 (.l 20) (.l 21), none⟩, ⟨.l 23, .load 1 false (.l 22), none⟩, ⟨.p 5, .mv (.l 23), none⟩]) (.seq (.region [⟨.l 24, .mv (.p 4), none⟩, ⟨.l 25, .mv (.p 5), none⟩, ⟨.l 26, .call (.c (.fn (.func 142) [] [])) [(.l 24), (.l 25)], none⟩, ⟨.p 6, .mv (.l 26), none⟩]) (.seq (.region [⟨.l 27, .mv (.p 6), none⟩, ⟨.l 28, .bin .neq (.l 27) (.c (.int .i64 (0))), none⟩]) (.cond (.l 28) (.seq (.region [⟨.l 29, .mv (.p 6), none⟩, ⟨.p 2, .mv (.l 29), none⟩]) (.ret)) (.skip)))))))) (.region [⟨.l 30, .bin .add (.p 9) (.c (.int .i64 (1))), none⟩, ⟨.p 9, .mv (.l 30), none⟩])))
def b139 : ICode := .seq (.region [⟨.p 2, .mv (.c (.int .i64 (0))), none⟩]) (.seq (.seq (.region [⟨.p 7, .mv (.p 0), none⟩, ⟨.p 8, .len .sl (.p 7), none⟩, ⟨.p 9, .mv (.c (.int .i64 (0))), none⟩]) (.block 0 (.loop b139_0))) (.seq (.seq (.region [⟨.l 31, .mv (.p 0), none⟩, ⟨.l 32, .len .sl (.l 31), none⟩, ⟨.l 33, .mv (.p 1), none⟩, ⟨.l 34, .len .sl (.l 33), none⟩, ⟨.l 35, .bin .lss (.l 32) (.l 34), none⟩]) (.cond (.l 35) (.seq (.region [⟨.p 2, .mv (.c (.int .i64 (-1))), none⟩]) (.ret)) (.skip))) (.seq (.region [⟨.p 2, .mv (.c (.int .i64 (0))), none⟩]) (.ret))))
theorem ft139 : FT 139 = some ⟨36, [0, 1, 4, 5, 6, 7, 8, 9, 10, 11], [.var (.p 2)], b139⟩ := by kernel_rfl
end Go.Ab.Ch6

/-
  Own work: the code of the functions that FieldFinalists needs: sorts, the reference.
-/
namespace Go.Ab.Ch6
set_option maxRecDepth 1000000
def b77_0 : ICode := .seq (.seq (.region [⟨.l 22, .mv (.p 6), none⟩, ⟨.l 23, .mv (.p 0), none⟩, ⟨.l 24, .len .sl (.l 23), none⟩, ⟨.l 25, .bin .lss (.l 22) (.l 24), none⟩]) (.cond (.l 25) (.skip) (.exit 2))) (.seq (.block 3 (.seq (.region [⟨.l 28, .mv (.p 0), none⟩, ⟨.l 29, .mv (.p 6), none⟩, ⟨.l 30, .iaddr none 3 (.l 28) (.l 29), none⟩, ⟨.l 31, .load 3 true (.l 30), none⟩, ⟨.l 32, .call (.c (.fn (.func 78) [] [])) [(.l 31)], none⟩, ⟨.l 33, .mv (.p 4), none⟩, ⟨.l 34, .call (.c (.fn (.func 127) [] [])) [(.l 32), (.l 33)], none⟩]) (.cond (.l 34) (.region [⟨.l 35, .mv (.p 5), none⟩, ⟨.l 36, .bin .add (.l 35) (.c (.int .i64 (1))), none⟩, ⟨.p 5, .mv (.l 36), none⟩]) (.skip)))) (.region [⟨.l 26, .mv (.p 6), none⟩, ⟨.l 27, .bin .add (.l 26) (.c (.int .i64 (1))), none⟩, ⟨.p 6, .mv (.l 27), none⟩]))
def b77_1 : ICode := .seq (.seq (.region [⟨.l 8, .mv (.p 3), none⟩, ⟨.l 9, .mv (.p 0), none⟩, ⟨.l 10, .len .sl (.l 9), none⟩, ⟨.l 11, .bin .lss (.l 8) (.l 10), none⟩]) (.cond (.l 11) (.skip) (.exit 0))) (.seq (.block 1 (.seq (.region [⟨.l 14, .mv (.p 0), none⟩, ⟨.l 15, .mv (.p 3), none⟩, ⟨.l 16, .iaddr none 3 (.l 14) (.l 15), none⟩, ⟨.l 17, .load 3 true (.l 16), none⟩, ⟨.l 18, .call (.c (.fn (.func 78) [] [])) [(.l 17)], none⟩, ⟨.p 4, .mv (.l 18), none⟩]) (.seq (.region [⟨.p 5, .mv (.c (.int .i64 (0))), none⟩]) (.seq (.seq (.region [⟨.l 19, .mv (.p 4), none⟩, ⟨.l 20, .len .sl (.l 19), none⟩, ⟨.l 21, .bin .gtr (.l 20) (.c (.int .i64 (0))), none⟩]) (.cond (.l 21) (.seq (.region [⟨.p 5, .mv (.c (.int .i64 (1))), none⟩]) (.seq (.region [⟨.p 6, .mv (.c (.int .i64 (0))), none⟩]) (.block 2 (.loop b77_0)))) (.skip))) (.region [⟨.l 37, .mv (.p 2), none⟩, ⟨.l 38, .mv (.p 5), none⟩, ⟨.l 39, .bslice 3 1 1 [.int .i64 (0)] [(0, 1, (.l 38))], none⟩, ⟨.l 40, .append 3 1 8 (.l 37) (.l 39), none⟩, ⟨.p 2, .mv (.l 40), none⟩]))))) (.region [⟨.l 12, .mv (.p 3), none⟩, ⟨.l 13, .bin .add (.l 12) (.c (.int .i64 (1))), none⟩, ⟨.p 3, .mv (.l 13), none⟩]))
def b77 : ICode := .seq (.region [⟨.p 1, .mv (.c (.nilsl)), none⟩]) (.seq (.region [⟨.p 2, .mv (.c (.nilsl)), none⟩]) (.seq (.seq (.region [⟨.p 3, .mv (.c (.int .i64 (0))), none⟩]) (.block 0 (.loop b77_1))) (.seq (.region [⟨.l 41, .mv (.p 2), none⟩, ⟨.p 1, .mv (.l 41), none⟩]) (.ret))))
theorem ft77 : FT 77 = some ⟨42, [0, 2, 3, 4, 5, 6, 7], [.var (.p 1)], b77⟩ := by kernel_rfl
def b78_0 : ICode := .seq (.seq (.region [⟨.l 23, .mv (.p 6), none⟩, ⟨.l 24, .bin .gtr (.l 23) (.c (.int .i64 (0))), none⟩, ⟨.l 25, .mv (.l 24), none⟩, ⟨.l 26, .mv (.p 3), some ((.l 25), true)⟩, ⟨.l 27, .mv (.p 6), some ((.l 25), true)⟩, ⟨.l 28, .bin .sub (.l 27) (.c (.int .i64 (1))), some ((.l 25), true)⟩, ⟨.l 29, .iaddr none 1 (.l 26) (.l 28), some ((.l 25), true)⟩, ⟨.l 30, .load 1 false (.l 29), some ((.l 25), true)⟩, ⟨.l 31, .mv (.p 5), some ((.l 25), true)⟩, ⟨.l 32, .bin .lss (.l 30) (.l 31), some ((.l 25), true)⟩, ⟨.l 33, .pick (.l 25) (.l 32) (.c (.bool false)), none⟩]) (.cond (.l 33) (.skip) (.exit 2))) (.block 3 (.region [⟨.l 34, .mv (.p 6), none⟩, ⟨.l 35, .bin .sub (.l 34) (.c (.int .i64 (1))), none⟩, ⟨.p 6, .mv (.l 35), none⟩]))
def b78_1 : ICode := .seq (.seq (.region [⟨.l 7, .mv (.p 4), none⟩, ⟨.l 8, .faddr 1 (.p 1), none⟩, ⟨.l 9, .load 1 false (.l 8), none⟩, ⟨.l 10, .len .sl (.l 9), none⟩, ⟨.l 11, .bin .lss (.l 7) (.l 10), none⟩]) (.cond (.l 11) (.skip) (.exit 0))) (.seq (.block 1 (.seq (.region [⟨.l 14, .faddr 1 (.p 1), none⟩, ⟨.l 15, .load 1 false (.l 14), none⟩, ⟨.l 16, .mv (.p 4), none⟩, ⟨.l 17, .iaddr none 1 (.l 15) (.l 16), none⟩, ⟨.l 18, .load 1 false (.l 17), none⟩, ⟨.p 5, .mv (.l 18), none⟩]) (.seq (.seq (.region [⟨.l 19, .mv (.p 5), none⟩, ⟨.l 20, .bin .lss (.l 19) (.c (.int .i64 (0))), none⟩]) (.cond (.l 20) (.exit 1) (.skip))) (.seq (.region [⟨.l 21, .mv (.p 3), none⟩, ⟨.l 22, .len .sl (.l 21), none⟩, ⟨.p 6, .mv (.l 22), none⟩]) (.seq (.block 2 (.loop b78_0)) (.draw [(⟨.l 36, .bslice 3 0 1 [.int .i64 (0)] [], none⟩, []), (⟨.l 37, .mv (.p 3), none⟩, [0]), (⟨.l 38, .mv (.p 6), none⟩, [0, 1]), (⟨.l 39, .slice .sl 1 (.l 37) none (some (.l 38)) none, none⟩, [0]), (⟨.l 40, .append 3 1 8 (.l 36) (.l 39), none⟩, []), (⟨.l 41, .mv (.p 5), none⟩, [0, 1, 2, 3, 4]), (⟨.l 42, .bslice 3 1 1 [.int .i64 (0)] [(0, 1, (.l 41))], none⟩, [0, 1, 2, 3, 4]), (⟨.l 43, .append 3 1 8 (.l 40) (.l 42), none⟩, []), (⟨.l 44, .mv (.p 3), none⟩, [0, 1, 2, 3, 4, 5, 6, 7]), (⟨.l 45, .mv (.p 6), none⟩, [0, 1, 2, 3, 4, 5, 6, 7, 8]), (⟨.l 46, .slice .sl 1 (.l 44) (some (.l 45)) none none, none⟩, [0, 1, 2, 3, 4, 5, 6, 7]), (⟨.l 47, .append 3 1 8 (.l 43) (.l 46), none⟩, []), (⟨.p 3, .mv (.l 47), none⟩, [])])))))) (.region [⟨.l 12, .mv (.p 4), none⟩, ⟨.l 13, .bin .add (.l 12) (.c (.int .i64 (1))), none⟩, ⟨.p 4, .mv (.l 13), none⟩]))
def b78 : ICode := .seq (.region [⟨.p 1, .box 145 3 (.p 0), none⟩, ⟨.p 2, .mv (.c (.nilsl)), none⟩]) (.seq (.region [⟨.p 3, .mv (.c (.nilsl)), none⟩]) (.seq (.seq (.region [⟨.p 4, .mv (.c (.int .i64 (0))), none⟩]) (.block 0 (.loop b78_1))) (.seq (.region [⟨.l 48, .mv (.p 3), none⟩, ⟨.p 2, .mv (.l 48), none⟩]) (.ret))))
theorem ft78 : FT 78 = some ⟨49, [0, 1, 2, 3, 4, 5, 6], [.var (.p 2)], b78⟩ := by kernel_rfl
def b127_0 : ICode := .seq (.seq (.region [⟨.l 6, .mv (.p 3), none⟩, ⟨.l 7, .mv (.p 0), none⟩, ⟨.l 8, .len .sl (.l 7), none⟩, ⟨.l 9, .bin .lss (.l 6) (.l 8), none⟩]) (.cond (.l 9) (.skip) (.exit 0))) (.seq (.block 1 (.seq (.seq (.draw [(⟨.l 12, .mv (.p 3), none⟩, []), (⟨.l 13, .mv (.p 1), none⟩, [0]), (⟨.l 14, .len .sl (.l 13), none⟩, [0]), (⟨.l 15, .bin .geq (.l 12) (.l 14), none⟩, []), (⟨.l 16, .mv (.l 15), none⟩, []), (⟨.l 17, .mv (.p 0), some ((.l 16), false)⟩, []), (⟨.l 18, .mv (.p 3), some ((.l 16), false)⟩, [5]), (⟨.l 19, .iaddr none 1 (.l 17) (.l 18), some ((.l 16), false)⟩, []), (⟨.l 20, .load 1 false (.l 19), some ((.l 16), false)⟩, []), (⟨.l 21, .mv (.p 1), some ((.l 16), false)⟩, [5, 6, 7, 8]), (⟨.l 22, .mv (.p 3), some ((.l 16), false)⟩, [5, 6, 7, 8, 9]), (⟨.l 23, .iaddr none 1 (.l 21) (.l 22), some ((.l 16), false)⟩, [5, 6, 7, 8]), (⟨.l 24, .load 1 false (.l 23), some ((.l 16), false)⟩, [5, 6, 7, 8]), (⟨.l 25, .bin .gtr (.l 20) (.l 24), some ((.l 16), false)⟩, []), (⟨.l 26, .pick (.l 16) (.c (.bool true)) (.l 25), none⟩, [])]) (.cond (.l 26) (.seq (.region [⟨.p 2, .mv (.c (.bool true)), none⟩]) (.ret)) (.skip))) (.seq (.draw [(⟨.l 27, .mv (.p 0), none⟩, []), (⟨.l 28, .mv (.p 3), none⟩, [0]), (⟨.l 29, .iaddr none 1 (.l 27) (.l 28), none⟩, []), (⟨.l 30, .load 1 false (.l 29), none⟩, []), (⟨.l 31, .mv (.p 1), none⟩, [0, 1, 2, 3]), (⟨.l 32, .mv (.p 3), none⟩, [0, 1, 2, 3, 4]), (⟨.l 33, .iaddr none 1 (.l 31) (.l 32), none⟩, [0, 1, 2, 3]), (⟨.l 34, .load 1 false (.l 33), none⟩, [0, 1, 2, 3]), (⟨.l 35, .bin .lss (.l 30) (.l 34), none⟩, [])]) (.cond (.l 35) (.seq (.region [⟨.p 2, .mv (.c (.bool false)), none⟩]) (.ret)) (.skip))))) (.region [⟨.l 10, .mv (.p 3), none⟩, ⟨.l 11, .bin .add (.l 10) (.c (.int .i64 (1))), none⟩, ⟨.p 3, .mv (.l 11), none⟩]))
def b127 : ICode := .seq (.region [⟨.p 2, .mv (.c (.bool false)), none⟩]) (.seq (.seq (.region [⟨.p 3, .mv (.c (.int .i64 (0))), none⟩]) (.block 0 (.loop b127_0))) (.seq (.region [⟨.p 2, .mv (.c (.bool false)), none⟩]) (.ret)))
theorem ft127 : FT 127 = some ⟨36, [0, 1, 4, 5], [.var (.p 2)], b127⟩ := by kernel_rfl
end Go.Ab.Ch6

/-
  Own work: the code of the functions that FieldRanks needs.
-/
namespace Go.Ab.Ch6
set_option maxRecDepth 1000000
def b5_0 : ICode := .seq (.region [⟨.l 62, .bin .lss (.p 10) (.p 9), none⟩]) (.seq (.cond (.l 62) (.skip) (.exit 0)) (.seq (.block 1 (.seq (.region [⟨.l 63, .mv (.p 10), none⟩, ⟨.p 8, .mv (.l 63), none⟩]) (.seq (.draw [(⟨.l 64, .mv (.p 4), none⟩, []), (⟨.l 65, .mv (.p 8), none⟩, [0]), (⟨.l 66, .iaddr none 4 (.l 64) (.l 65), none⟩, []), (⟨.l 67, .load 4 true (.l 66), none⟩, []), (⟨.l 68, .mv (.p 7), none⟩, [0, 1, 2, 3]), (⟨.l 69, .mv (.p 8), none⟩, [0, 1, 2, 3, 4]), (⟨.l 70, .iaddr none 5 (.l 68) (.l 69), none⟩, [0, 1, 2, 3]), (⟨.l 71, .faddr 0 (.l 70), none⟩, [0, 1, 2, 3]), (⟨.l 72, .load 1 false (.l 71), none⟩, [0, 1, 2, 3]), (⟨.l 73, .mv (.p 7), none⟩, [0, 1, 2, 3, 4, 5, 6, 7, 8]), (⟨.l 74, .mv (.p 8), none⟩, [0, 1, 2, 3, 4, 5, 6, 7, 8, 9]), (⟨.l 75, .iaddr none 5 (.l 73) (.l 74), none⟩, [0, 1, 2, 3, 4, 5, 6, 7, 8]), (⟨.l 76, .faddr 2 (.l 75), none⟩, [0, 1, 2, 3, 4, 5, 6, 7, 8]), (⟨.l 77, .load 3 true (.l 76), none⟩, [0, 1, 2, 3, 4, 5, 6, 7, 8]), (⟨.l 78, .build [.str [], .str [], .int .i64 (0), .str []] [(0, 1, (.l 72)), (1, 3, (.l 77))], none⟩, [0, 1, 2, 3]), (⟨.l 79, .eq true (.strct [(0, 1, false, .str), (1, 3, true, (.strct [(0, 1, false, .str), (1, 1, false, .int), (2, 1, false, .str)]))]) (.l 67) (.l 78), none⟩, [])]) (.cond (.l 79) (.seq (.region [⟨.p 1, .mv (.c (.bool false)), none⟩]) (.ret)) (.skip))))) (.region [⟨.l 80, .bin .add (.p 10) (.c (.int .i64 (1))), none⟩, ⟨.p 10, .mv (.l 80), none⟩])))
def b5 : ICode := .seq (.region [⟨.p 1, .mv (.c (.bool false)), none⟩]) (.seq (.seq (.region [⟨.l 10, .mv (.p 0), none⟩, ⟨.l 11, .call (.c (.fn (.func 22) [] [])) [(.l 10)], none⟩, ⟨.l 12, .un .not (.l 11), none⟩]) (.cond (.l 12) (.seq (.region [⟨.l 13, .call (.c (.fn (.func 10) [] [])) [], none⟩, ⟨.p 1, .mv (.l 13), none⟩]) (.ret)) (.skip))) (.seq (.region [⟨.l 15, .mv (.p 0), none⟩, ⟨.l 16, .call (.c (.fn (.func 24) [] [])) [(.l 15)], none⟩, ⟨.l 17, .call (.c (.fn (.func 23) [] [])) [(.l 16)], none⟩, ⟨.l 14, .mv (.l 17), none⟩, ⟨.l 18, .extract 0 (.l 14), none⟩, ⟨.l 19, .extract 1 (.l 14), none⟩, ⟨.p 2, .mv (.l 18), none⟩, ⟨.p 3, .mv (.l 19), none⟩]) (.seq (.region [⟨.l 21, .mv (.p 0), none⟩, ⟨.l 22, .call (.c (.fn (.func 24) [] [])) [(.l 21)], none⟩, ⟨.l 23, .call (.c (.fn (.func 25) [] [])) [(.l 22)], none⟩, ⟨.l 20, .mv (.l 23), none⟩, ⟨.l 24, .extract 0 (.l 20), none⟩, ⟨.l 25, .extract 1 (.l 20), none⟩, ⟨.p 4, .mv (.l 24), none⟩, ⟨.p 5, .mv (.l 25), none⟩]) (.seq (.region [⟨.l 26, .mv (.p 0), none⟩, ⟨.l 27, .call (.c (.fn (.func 26) [] [])) [(.l 26)], none⟩, ⟨.p 6, .mv (.l 27), none⟩]) (.seq (.seq (.region [⟨.l 28, .mv (.p 0), none⟩, ⟨.l 29, .call (.c (.fn (.func 24) [] [])) [(.l 28)], none⟩, ⟨.l 30, .call (.c (.fn (.func 27) [] [])) [(.l 29)], none⟩, ⟨.l 31, .mv (.p 6), none⟩, ⟨.l 32, .bin .neq (.l 30) (.l 31), none⟩]) (.cond (.l 32) (.seq (.region [⟨.p 1, .mv (.c (.bool false)), none⟩]) (.ret)) (.skip))) (.seq (.region [⟨.p 7, .mv (.c (.nilsl)), none⟩]) (.seq (.seq (.region [⟨.l 33, .mv (.p 6), none⟩, ⟨.l 34, .bin .eql (.l 33) (.c (.int .i64 (0))), none⟩]) (.cond (.l 34) (.region [⟨.l 35, .mv (.p 0), none⟩, ⟨.l 36, .call (.c (.fn (.func 28) [] [])) [(.l 35)], none⟩, ⟨.p 7, .mv (.l 36), none⟩]) (.skip))) (.seq (.seq (.region [⟨.l 37, .mv (.p 3), none⟩, ⟨.l 38, .mv (.p 6), none⟩, ⟨.l 39, .bin .neq (.l 37) (.l 38), none⟩, ⟨.l 40, .mv (.l 39), none⟩, ⟨.l 41, .mv (.p 2), some ((.l 40), false)⟩, ⟨.l 42, .call (.c (.fn (.func 30) [] [])) [(.l 41)], some ((.l 40), false)⟩, ⟨.l 43, .mv (.p 7), some ((.l 40), false)⟩, ⟨.l 44, .call (.c (.fn (.func 29) [] [])) [(.l 42), (.l 43)], some ((.l 40), false)⟩, ⟨.l 45, .un .not (.l 44), some ((.l 40), false)⟩, ⟨.l 46, .pick (.l 40) (.c (.bool true)) (.l 45), none⟩, ⟨.l 47, .mv (.l 46), none⟩, ⟨.l 48, .mv (.p 5), some ((.l 47), false)⟩, ⟨.l 49, .mv (.p 6), some ((.l 47), false)⟩, ⟨.l 50, .bin .neq (.l 48) (.l 49), some ((.l 47), false)⟩, ⟨.l 51, .pick (.l 47) (.c (.bool true)) (.l 50), none⟩, ⟨.l 52, .mv (.l 51), none⟩, ⟨.l 53, .mv (.p 4), some ((.l 52), false)⟩, ⟨.l 54, .len .sl (.l 53), some ((.l 52), false)⟩, ⟨.l 55, .mv (.p 7), some ((.l 52), false)⟩, ⟨.l 56, .len .sl (.l 55), some ((.l 52), false)⟩, ⟨.l 57, .bin .neq (.l 54) (.l 56), some ((.l 52), false)⟩, ⟨.l 58, .pick (.l 52) (.c (.bool true)) (.l 57), none⟩]) (.cond (.l 58) (.seq (.region [⟨.p 1, .mv (.c (.bool false)), none⟩]) (.ret)) (.skip))) (.seq (.seq (.region [⟨.l 59, .mv (.p 4), none⟩, ⟨.p 9, .len .sl (.l 59), none⟩, ⟨.p 10, .mv (.c (.int .i64 (0))), none⟩]) (.block 0 (.loop b5_0))) (.seq (.region [⟨.l 81, .call (.c (.fn (.func 10) [] [])) [], none⟩, ⟨.p 1, .mv (.l 81), none⟩]) (.ret)))))))))))
theorem ft5 : FT 5 = some ⟨82, [0, 2, 3, 4, 5, 6, 7, 8, 9, 60, 61], [.var (.p 1)], b5⟩ := by kernel_rfl
def b23 : ICode := .seq (.region [⟨.p 1, .mv (.c (.nilsl)), none⟩, ⟨.p 2, .mv (.c (.int .i64 (0))), none⟩]) (.seq (.seq (.region [⟨.l 5, .mv (.p 0), none⟩, ⟨.l 6, .call (.c (.fn (.func 27) [] [])) [(.l 5)], none⟩, ⟨.p 3, .mv (.l 6), none⟩]) (.seq (.region [⟨.l 7, .mv (.p 3), none⟩, ⟨.l 8, .bin .neq (.l 7) (.c (.int .i64 (0))), none⟩]) (.cond (.l 8) (.seq (.region [⟨.l 9, .mv (.p 3), none⟩, ⟨.p 1, .mv (.c (.nilsl)), none⟩, ⟨.p 2, .mv (.l 9), none⟩]) (.ret)) (.skip)))) (.seq (.region [⟨.l 10, .mv (.p 0), none⟩, ⟨.l 11, .call (.c (.fn (.func 71) [] [])) [(.l 10)], none⟩, ⟨.p 1, .mv (.l 11), none⟩, ⟨.p 2, .mv (.c (.int .i64 (0))), none⟩]) (.ret)))
theorem ft23 : FT 23 = some ⟨12, [0, 2, 3, 4], [.var (.p 1), .var (.p 2)], b23⟩ := by kernel_rfl
def b25_0 : ICode := .seq (.region [⟨.l 17, .bin .lss (.p 8) (.p 7), none⟩]) (.seq (.cond (.l 17) (.skip) (.exit 0)) (.seq (.block 1 (.seq (.region [⟨.l 18, .iaddr none 5 (.p 6) (.p 8), none⟩, ⟨.l 19, .load 5 true (.l 18), none⟩, ⟨.p 5, .alloc 116 [.str [], .int .i64 (0), .str [], .int .i64 (0), .str []], none⟩, ⟨.no, .store 5 (.p 5) (.l 19), none⟩]) (.region [⟨.l 20, .mv (.p 4), none⟩, ⟨.l 21, .faddr 0 (.p 5), none⟩, ⟨.l 22, .load 1 false (.l 21), none⟩, ⟨.l 23, .faddr 2 (.p 5), none⟩, ⟨.l 24, .load 3 true (.l 23), none⟩, ⟨.l 25, .build [.str [], .str [], .int .i64 (0), .str []] [(0, 1, (.l 22)), (1, 3, (.l 24))], none⟩, ⟨.l 26, .bslice 72 1 4 [.str [], .str [], .int .i64 (0), .str []] [(0, 4, (.l 25))], none⟩, ⟨.l 27, .append 72 4 56 (.l 20) (.l 26), none⟩, ⟨.p 4, .mv (.l 27), none⟩]))) (.region [⟨.l 28, .bin .add (.p 8) (.c (.int .i64 (1))), none⟩, ⟨.p 8, .mv (.l 28), none⟩])))
def b25 : ICode := .seq (.region [⟨.p 1, .mv (.c (.nilsl)), none⟩, ⟨.p 2, .mv (.c (.int .i64 (0))), none⟩]) (.seq (.seq (.region [⟨.l 8, .mv (.p 0), none⟩, ⟨.l 9, .call (.c (.fn (.func 27) [] [])) [(.l 8)], none⟩, ⟨.p 3, .mv (.l 9), none⟩]) (.seq (.region [⟨.l 10, .mv (.p 3), none⟩, ⟨.l 11, .bin .neq (.l 10) (.c (.int .i64 (0))), none⟩]) (.cond (.l 11) (.seq (.region [⟨.l 12, .mv (.p 3), none⟩, ⟨.p 1, .mv (.c (.nilsl)), none⟩, ⟨.p 2, .mv (.l 12), none⟩]) (.ret)) (.skip)))) (.seq (.region [⟨.p 4, .mv (.c (.nilsl)), none⟩]) (.seq (.seq (.region [⟨.l 13, .mv (.p 0), none⟩, ⟨.p 6, .call (.c (.fn (.func 71) [] [])) [(.l 13)], none⟩, ⟨.p 7, .len .sl (.p 6), none⟩, ⟨.p 8, .mv (.c (.int .i64 (0))), none⟩]) (.block 0 (.loop b25_0))) (.seq (.region [⟨.l 29, .mv (.p 4), none⟩, ⟨.p 1, .mv (.l 29), none⟩, ⟨.p 2, .mv (.c (.int .i64 (0))), none⟩]) (.ret)))))
theorem ft25 : FT 25 = some ⟨30, [0, 2, 3, 4, 5, 7, 14, 15, 16], [.var (.p 1), .var (.p 2)], b25⟩ := by kernel_rfl
def b28_0 : ICode := .seq (.seq (.region [⟨.l 10, .mv (.p 4), none⟩, ⟨.l 11, .mv (.p 0), none⟩, ⟨.l 12, .len .sl (.l 11), none⟩, ⟨.l 13, .bin .lss (.l 10) (.l 12), none⟩]) (.cond (.l 13) (.skip) (.exit 0))) (.seq (.block 1 (.seq (.region [⟨.l 16, .mv (.p 0), none⟩, ⟨.l 17, .mv (.p 4), none⟩, ⟨.l 18, .iaddr none 3 (.l 16) (.l 17), none⟩, ⟨.l 19, .load 3 true (.l 18), none⟩, ⟨.l 20, .call (.c (.fn (.func 78) [] [])) [(.l 19)], none⟩, ⟨.p 5, .mv (.l 20), none⟩]) (.seq (.draw [(⟨.l 21, .mv (.p 0), none⟩, []), (⟨.l 22, .mv (.p 4), none⟩, [0]), (⟨.l 23, .iaddr none 3 (.l 21) (.l 22), none⟩, []), (⟨.l 24, .faddr 1 (.l 23), none⟩, []), (⟨.l 25, .load 1 false (.l 24), none⟩, []), (⟨.l 26, .len .sl (.l 25), none⟩, []), (⟨.l 27, .bin .eql (.l 26) (.c (.int .i64 (0))), none⟩, []), (⟨.l 28, .mv (.p 0), none⟩, [0, 1, 2, 3, 4, 5, 6]), (⟨.l 29, .mv (.p 4), none⟩, [0, 1, 2, 3, 4, 5, 6, 7]), (⟨.l 30, .iaddr none 3 (.l 28) (.l 29), none⟩, [0, 1, 2, 3, 4, 5, 6]), (⟨.l 31, .faddr 2 (.l 30), none⟩, [0, 1, 2, 3, 4, 5, 6]), (⟨.l 32, .load 1 false (.l 31), none⟩, [0, 1, 2, 3, 4, 5, 6]), (⟨.l 33, .call (.c (.fn (.func 79) [] [])) [(.l 27), (.l 32)], none⟩, []), (⟨.p 6, .alloc 70 [.str [], .int .i64 (0), .str []], none⟩, [0, 1, 2, 3, 4, 5, 6, 7, 8, 9, 10, 11, 12]), (⟨.no, .store 3 (.p 6) (.l 33), none⟩, [])]) (.seq (.seq (.region [⟨.l 34, .mv (.p 5), none⟩, ⟨.l 35, .len .sl (.l 34), none⟩, ⟨.l 36, .bin .gtr (.l 35) (.c (.int .i64 (0))), none⟩]) (.cond (.l 36) (.region [⟨.l 37, .mv (.p 5), none⟩, ⟨.l 38, .iaddr none 1 (.l 37) (.c (.int .i64 (0))), none⟩, ⟨.l 39, .load 1 false (.l 38), none⟩, ⟨.l 40, .build [.str [], .int .i64 (0), .str []] [(0, 1, (.c (.str [108, 101, 110, 103, 116, 104]))), (1, 1, (.l 39))], none⟩, ⟨.no, .store 3 (.p 6) (.l 40), none⟩]) (.skip))) (.draw [(⟨.l 41, .mv (.p 3), none⟩, []), (⟨.l 42, .mv (.p 0), none⟩, [0]), (⟨.l 43, .mv (.p 4), none⟩, [0, 1]), (⟨.l 44, .iaddr none 3 (.l 42) (.l 43), none⟩, [0]), (⟨.l 45, .faddr 0 (.l 44), none⟩, [0]), (⟨.l 46, .load 1 false (.l 45), none⟩, [0]), (⟨.l 47, .mv (.p 2), none⟩, [0, 1, 2, 3, 4, 5]), (⟨.l 48, .mv (.p 4), none⟩, [0, 1, 2, 3, 4, 5, 6]), (⟨.l 49, .iaddr none 1 (.l 47) (.l 48), none⟩, [0, 1, 2, 3, 4, 5]), (⟨.l 50, .load 1 false (.l 49), none⟩, [0, 1, 2, 3, 4, 5]), (⟨.l 51, .load 3 true (.p 6), none⟩, [0, 1, 2, 3, 4, 5, 6, 7, 8, 9]), (⟨.l 52, .build [.str [], .int .i64 (0), .str [], .int .i64 (0), .str []] [(0, 1, (.l 46)), (1, 1, (.l 50)), (2, 3, (.l 51))], none⟩, [0]), (⟨.l 53, .bslice 74 1 5 [.str [], .int .i64 (0), .str [], .int .i64 (0), .str []] [(0, 5, (.l 52))], none⟩, [0]), (⟨.l 54, .append 74 5 64 (.l 41) (.l 53), none⟩, []), (⟨.p 3, .mv (.l 54), none⟩, [])]))))) (.region [⟨.l 14, .mv (.p 4), none⟩, ⟨.l 15, .bin .add (.l 14) (.c (.int .i64 (1))), none⟩, ⟨.p 4, .mv (.l 15), none⟩]))
def b28 : ICode := .seq (.region [⟨.p 1, .mv (.c (.nilsl)), none⟩]) (.seq (.region [⟨.l 8, .mv (.p 0), none⟩, ⟨.l 9, .call (.c (.fn (.func 77) [] [])) [(.l 8)], none⟩, ⟨.p 2, .mv (.l 9), none⟩]) (.seq (.region [⟨.p 3, .mv (.c (.nilsl)), none⟩]) (.seq (.seq (.region [⟨.p 4, .mv (.c (.int .i64 (0))), none⟩]) (.block 0 (.loop b28_0))) (.seq (.region [⟨.l 55, .mv (.p 3), none⟩, ⟨.l 56, .call (.c (.fn (.func 80) [] [])) [(.l 55)], none⟩, ⟨.p 1, .mv (.l 56), none⟩]) (.ret)))))
theorem ft28 : FT 28 = some ⟨57, [0, 2, 3, 4, 5, 6, 7], [.var (.p 1)], b28⟩ := by kernel_rfl
def b29_0 : ICode := .seq (.seq (.region [⟨.l 11, .mv (.p 3), none⟩, ⟨.l 12, .mv (.p 0), none⟩, ⟨.l 13, .len .sl (.l 12), none⟩, ⟨.l 14, .bin .lss (.l 11) (.l 13), none⟩]) (.cond (.l 14) (.skip) (.exit 0))) (.seq (.block 1 (.seq (.draw [(⟨.l 17, .mv (.p 0), none⟩, []), (⟨.l 18, .mv (.p 3), none⟩, [0]), (⟨.l 19, .iaddr none 5 (.l 17) (.l 18), none⟩, []), (⟨.l 20, .load 5 true (.l 19), none⟩, []), (⟨.l 21, .mv (.p 1), none⟩, [0, 1, 2, 3]), (⟨.l 22, .mv (.p 3), none⟩, [0, 1, 2, 3, 4]), (⟨.l 23, .iaddr none 5 (.l 21) (.l 22), none⟩, [0, 1, 2, 3]), (⟨.l 24, .load 5 true (.l 23), none⟩, [0, 1, 2, 3]), (⟨.l 25, .eq true (.strct [(0, 1, false, .str), (1, 1, false, .int), (2, 3, true, (.strct [(0, 1, false, .str), (1, 1, false, .int), (2, 1, false, .str)]))]) (.l 20) (.l 24), none⟩, [])]) (.cond (.l 25) (.seq (.region [⟨.p 2, .mv (.c (.bool false)), none⟩]) (.ret)) (.skip)))) (.region [⟨.l 15, .mv (.p 3), none⟩, ⟨.l 16, .bin .add (.l 15) (.c (.int .i64 (1))), none⟩, ⟨.p 3, .mv (.l 16), none⟩]))
def b29 : ICode := .seq (.region [⟨.p 2, .mv (.c (.bool false)), none⟩]) (.seq (.seq (.region [⟨.l 6, .mv (.p 0), none⟩, ⟨.l 7, .len .sl (.l 6), none⟩, ⟨.l 8, .mv (.p 1), none⟩, ⟨.l 9, .len .sl (.l 8), none⟩, ⟨.l 10, .bin .neq (.l 7) (.l 9), none⟩]) (.cond (.l 10) (.seq (.region [⟨.p 2, .mv (.c (.bool false)), none⟩]) (.ret)) (.skip))) (.seq (.seq (.region [⟨.p 3, .mv (.c (.int .i64 (0))), none⟩]) (.block 0 (.loop b29_0))) (.seq (.region [⟨.p 2, .mv (.c (.bool true)), none⟩]) (.ret))))
theorem ft29 : FT 29 = some ⟨26, [0, 1, 4, 5], [.var (.p 2)], b29⟩ := by kernel_rfl
def b30_0 : ICode := .seq (.region [⟨.l 9, .bin .lss (.p 6) (.p 5), none⟩]) (.seq (.cond (.l 9) (.skip) (.exit 0)) (.seq (.block 1 (.seq (.region [⟨.l 10, .iaddr none 5 (.p 4) (.p 6), none⟩, ⟨.l 11, .load 5 true (.l 10), none⟩, ⟨.p 3, .alloc 116 [.str [], .int .i64 (0), .str [], .int .i64 (0), .str []], none⟩, ⟨.no, .store 5 (.p 3) (.l 11), none⟩]) (.region [⟨.l 12, .mv (.p 2), none⟩, ⟨.l 13, .load 5 true (.p 3), none⟩, ⟨.l 14, .bslice 74 1 5 [.str [], .int .i64 (0), .str [], .int .i64 (0), .str []] [(0, 5, (.l 13))], none⟩, ⟨.l 15, .append 74 5 64 (.l 12) (.l 14), none⟩, ⟨.p 2, .mv (.l 15), none⟩]))) (.region [⟨.l 16, .bin .add (.p 6) (.c (.int .i64 (1))), none⟩, ⟨.p 6, .mv (.l 16), none⟩])))
def b30 : ICode := .seq (.region [⟨.p 1, .mv (.c (.nilsl)), none⟩]) (.seq (.region [⟨.p 2, .mv (.c (.nilsl)), none⟩]) (.seq (.seq (.region [⟨.p 4, .mv (.p 0), none⟩, ⟨.p 5, .len .sl (.p 4), none⟩, ⟨.p 6, .mv (.c (.int .i64 (0))), none⟩]) (.block 0 (.loop b30_0))) (.seq (.region [⟨.l 17, .mv (.p 2), none⟩, ⟨.p 1, .mv (.l 17), none⟩]) (.ret))))
theorem ft30 : FT 30 = some ⟨18, [0, 2, 3, 5, 6, 7, 8], [.var (.p 1)], b30⟩ := by kernel_rfl
def b71_0 : ICode := .seq (.region [⟨.l 13, .bin .lss (.p 10) (.p 9), none⟩]) (.seq (.cond (.l 13) (.skip) (.exit 0)) (.seq (.block 1 (.seq (.region [⟨.l 14, .iaddr none 3 (.p 8) (.p 10), none⟩, ⟨.l 15, .load 3 true (.l 14), none⟩, ⟨.p 3, .alloc 113 [.str [], .nilsl, .bool false], none⟩, ⟨.no, .store 3 (.p 3) (.l 15), none⟩]) (.region [⟨.l 16, .mv (.p 2), none⟩, ⟨.l 17, .faddr 1 (.p 3), none⟩, ⟨.l 18, .load 1 false (.l 17), none⟩, ⟨.l 19, .bslice 25 1 1 [.nilsl] [(0, 1, (.l 18))], none⟩, ⟨.l 20, .append 25 1 24 (.l 16) (.l 19), none⟩, ⟨.p 2, .mv (.l 20), none⟩]))) (.region [⟨.l 21, .bin .add (.p 10) (.c (.int .i64 (1))), none⟩, ⟨.p 10, .mv (.l 21), none⟩])))
def b71_1 : ICode := .seq (.region [⟨.l 26, .bin .lss (.p 13) (.p 12), none⟩]) (.seq (.cond (.l 26) (.skip) (.exit 2)) (.seq (.block 3 (.seq (.region [⟨.l 27, .mv (.p 13), none⟩, ⟨.l 28, .iaddr none 1 (.p 11) (.p 13), none⟩, ⟨.l 29, .load 1 false (.l 28), none⟩, ⟨.p 5, .mv (.l 27), none⟩, ⟨.p 6, .mv (.l 29), none⟩]) (.seq (.draw [(⟨.l 30, .mv (.p 0), none⟩, []), (⟨.l 31, .mv (.p 5), none⟩, [0]), (⟨.l 32, .iaddr none 3 (.l 30) (.l 31), none⟩, []), (⟨.l 33, .faddr 0 (.l 32), none⟩, []), (⟨.l 34, .load 1 false (.l 33), none⟩, []), (⟨.l 35, .mv (.p 6), none⟩, [0, 1, 2, 3, 4]), (⟨.l 36, .mv (.p 0), none⟩, [0, 1, 2, 3, 4, 5]), (⟨.l 37, .mv (.p 5), none⟩, [0, 1, 2, 3, 4, 5, 6]), (⟨.l 38, .iaddr none 3 (.l 36) (.l 37), none⟩, [0, 1, 2, 3, 4, 5]), (⟨.l 39, .faddr 1 (.l 38), none⟩, [0, 1, 2, 3, 4, 5]), (⟨.l 40, .load 1 false (.l 39), none⟩, [0, 1, 2, 3, 4, 5]), (⟨.l 41, .len .sl (.l 40), none⟩, [0, 1, 2, 3, 4, 5]), (⟨.l 42, .bin .gtr (.l 41) (.c (.int .i64 (0))), none⟩, [0, 1, 2, 3, 4, 5]), (⟨.l 43, .mv (.p 0), none⟩, [0, 1, 2, 3, 4, 5, 6, 7, 8, 9, 10, 11, 12]), (⟨.l 44, .mv (.p 5), none⟩, [0, 1, 2, 3, 4, 5, 6, 7, 8, 9, 10, 11, 12, 13]), (⟨.l 45, .iaddr none 3 (.l 43) (.l 44), none⟩, [0, 1, 2, 3, 4, 5, 6, 7, 8, 9, 10, 11, 12]), (⟨.l 46, .faddr 2 (.l 45), none⟩, [0, 1, 2, 3, 4, 5, 6, 7, 8, 9, 10, 11, 12]), (⟨.l 47, .load 1 false (.l 46), none⟩, [0, 1, 2, 3, 4, 5, 6, 7, 8, 9, 10, 11, 12]), (⟨.l 48, .call (.c (.fn (.func 89) [] [])) [(.l 42), (.l 47)], none⟩, [0, 1, 2, 3, 4, 5]), (⟨.l 49, .build [.str [], .int .i64 (0), .str [], .int .i64 (0), .str []] [(0, 1, (.l 34)), (1, 1, (.l 35)), (2, 3, (.l 48))], none⟩, []), (⟨.p 7, .alloc 116 [.str [], .int .i64 (0), .str [], .int .i64 (0), .str []], none⟩, [0, 1, 2, 3, 4, 5, 6, 7, 8, 9, 10, 11, 12, 13, 14, 15, 16, 17, 18, 19]), (⟨.no, .store 5 (.p 7) (.l 49), none⟩, [])]) (.seq (.seq (.region [⟨.l 50, .mv (.p 6), none⟩, ⟨.l 51, .bin .gtr (.l 50) (.c (.int .i64 (0))), none⟩]) (.cond (.l 51) (.region [⟨.l 52, .mv (.p 0), none⟩, ⟨.l 53, .mv (.p 5), none⟩, ⟨.l 54, .iaddr none 3 (.l 52) (.l 53), none⟩, ⟨.l 55, .faddr 1 (.l 54), none⟩, ⟨.l 56, .load 1 false (.l 55), none⟩, ⟨.l 57, .call (.c (.fn (.func 124) [] [])) [(.l 56)], none⟩, ⟨.l 58, .build [.str [], .int .i64 (0), .str []] [(0, 1, (.c (.str [108, 101, 110, 103, 116, 104]))), (1, 1, (.l 57))], none⟩, ⟨.l 59, .faddr 2 (.p 7), none⟩, ⟨.no, .store 3 (.l 59) (.l 58), none⟩]) (.skip))) (.region [⟨.l 60, .mv (.p 4), none⟩, ⟨.l 61, .load 5 true (.p 7), none⟩, ⟨.l 62, .bslice 116 1 5 [.str [], .int .i64 (0), .str [], .int .i64 (0), .str []] [(0, 5, (.l 61))], none⟩, ⟨.l 63, .append 116 5 64 (.l 60) (.l 62), none⟩, ⟨.p 4, .mv (.l 63), none⟩]))))) (.region [⟨.l 64, .bin .add (.p 13) (.c (.int .i64 (1))), none⟩, ⟨.p 13, .mv (.l 64), none⟩])))
def b71 : ICode := .seq (.region [⟨.p 1, .mv (.c (.nilsl)), none⟩]) (.seq (.region [⟨.p 2, .mv (.c (.nilsl)), none⟩]) (.seq (.seq (.region [⟨.p 8, .mv (.p 0), none⟩, ⟨.p 9, .len .sl (.p 8), none⟩, ⟨.p 10, .mv (.c (.int .i64 (0))), none⟩]) (.block 0 (.loop b71_0))) (.seq (.region [⟨.p 4, .mv (.c (.nilsl)), none⟩]) (.seq (.seq (.region [⟨.l 22, .mv (.p 2), none⟩, ⟨.p 11, .call (.c (.fn (.func 123) [] [])) [(.l 22)], none⟩, ⟨.p 12, .len .sl (.p 11), none⟩, ⟨.p 13, .mv (.c (.int .i64 (0))), none⟩]) (.block 2 (.loop b71_1))) (.seq (.region [⟨.l 65, .mv (.p 4), none⟩, ⟨.l 66, .call (.c (.fn (.func 94) [] [])) [(.l 65)], none⟩, ⟨.p 1, .mv (.l 66), none⟩]) (.ret))))))
theorem ft71 : FT 71 = some ⟨67, [0, 2, 3, 5, 6, 7, 8, 9, 10, 11, 12, 23, 24, 25], [.var (.p 1)], b71⟩ := by kernel_rfl
def b89 : ICode := .seq (.region [⟨.p 2, .alloc 70 [.str [], .int .i64 (0), .str []], none⟩]) (.seq (.seq (.region [⟨.l 5, .mv (.p 0), none⟩, ⟨.l 6, .un .not (.l 5), none⟩, ⟨.l 7, .mv (.l 6), none⟩, ⟨.l 8, .mv (.p 1), some ((.l 7), true)⟩, ⟨.l 9, .pick (.l 7) (.l 8) (.c (.bool false)), none⟩]) (.cond (.l 9) (.seq (.region [⟨.l 10, .build [.str [], .int .i64 (0), .str []] [(0, 1, (.c (.str [110, 111, 110, 101]))), (2, 1, (.c (.str [68, 78, 83])))], none⟩, ⟨.no, .store 3 (.p 2) (.l 10), none⟩]) (.ret)) (.skip))) (.seq (.region [⟨.l 11, .build [.str [], .int .i64 (0), .str []] [(0, 1, (.c (.str [110, 111, 110, 101]))), (2, 1, (.c (.str [78, 77])))], none⟩, ⟨.no, .store 3 (.p 2) (.l 11), none⟩]) (.ret)))
theorem ft89 : FT 89 = some ⟨12, [0, 1, 4], [.cell 3 true (.p 2)], b89⟩ := by kernel_rfl
def b94 : ICode := .seq (.region [⟨.p 1, .mv (.c (.nilsl)), none⟩]) (.seq (.region [⟨.l 3, .mv (.p 0), none⟩, ⟨.l 4, .call (.c (.fn (.func 143) [] [])) [(.l 3), (.c (.fn (.func 144) [] []))], none⟩]) (.seq (.region [⟨.l 5, .mv (.p 0), none⟩, ⟨.p 1, .mv (.l 5), none⟩]) (.ret)))
theorem ft94 : FT 94 = some ⟨6, [0, 2], [.var (.p 1)], b94⟩ := by kernel_rfl
def b143 : ICode := .region [⟨.l 4, .mv (.p 0), none⟩, ⟨.l 5, .mv (.p 0), none⟩, ⟨.l 6, .len .sl (.l 5), none⟩, ⟨.l 7, .mv (.p 1), none⟩, ⟨.l 8, .call (.c (.fn (.func 193) [] [])) [(.l 4), (.l 6), (.l 7)], none⟩]
theorem ft143 : FT 143 = some ⟨9, [0, 1], [], b143⟩ := by kernel_rfl
def b144 : ICode := .seq (.region [⟨.p 2, .box 116 5 (.p 0), none⟩, ⟨.p 3, .box 116 5 (.p 1), none⟩, ⟨.p 4, .mv (.c (.int .i64 (0))), none⟩]) (.seq (.draw [(⟨.l 5, .faddr 1 (.p 3), none⟩, []), (⟨.l 6, .load 1 false (.l 5), none⟩, []), (⟨.l 7, .mm false [(.l 6), (.c (.int .i64 (1)))], none⟩, []), (⟨.l 8, .faddr 1 (.p 2), none⟩, [0, 1, 2]), (⟨.l 9, .load 1 false (.l 8), none⟩, [0, 1, 2]), (⟨.l 10, .mm false [(.l 9), (.c (.int .i64 (1)))], none⟩, [0, 1, 2]), (⟨.l 11, .call (.c (.fn (.func 142) [] [])) [(.l 7), (.l 10)], none⟩, []), (⟨.l 12, .faddr 1 (.p 2), none⟩, [0, 1, 2, 3, 4, 5, 6]), (⟨.l 13, .load 1 false (.l 12), none⟩, [0, 1, 2, 3, 4, 5, 6]), (⟨.l 14, .faddr 1 (.p 3), none⟩, [0, 1, 2, 3, 4, 5, 6, 7, 8]), (⟨.l 15, .load 1 false (.l 14), none⟩, [0, 1, 2, 3, 4, 5, 6, 7, 8]), (⟨.l 16, .call (.c (.fn (.func 142) [] [])) [(.l 13), (.l 15)], none⟩, []), (⟨.l 17, .bslice 3 2 1 [.int .i64 (0)] [(0, 1, (.l 11)), (1, 1, (.l 16))], none⟩, []), (⟨.l 18, .call (.c (.fn (.func 145) [] [])) [(.l 17)], none⟩, []), (⟨.p 4, .mv (.l 18), none⟩, [])]) (.ret))
theorem ft144 : FT 144 = some ⟨19, [0, 1, 2, 3, 4], [.var (.p 4)], b144⟩ := by kernel_rfl
def b145_0 : ICode := .seq (.region [⟨.l 9, .bin .lss (.p 6) (.p 5), none⟩]) (.seq (.cond (.l 9) (.skip) (.exit 0)) (.seq (.block 1 (.seq (.region [⟨.l 10, .iaddr none 1 (.p 4) (.p 6), none⟩, ⟨.l 11, .load 1 false (.l 10), none⟩, ⟨.p 3, .mv (.l 11), none⟩]) (.seq (.region [⟨.l 12, .mv (.p 3), none⟩, ⟨.l 13, .mv (.p 2), none⟩, ⟨.l 14, .bin .neq (.l 12) (.l 13), none⟩]) (.cond (.l 14) (.seq (.region [⟨.l 15, .mv (.p 3), none⟩, ⟨.p 1, .mv (.l 15), none⟩]) (.ret)) (.skip))))) (.region [⟨.l 16, .bin .add (.p 6) (.c (.int .i64 (1))), none⟩, ⟨.p 6, .mv (.l 16), none⟩])))
def b145 : ICode := .seq (.region [⟨.p 1, .mv (.c (.int .i64 (0))), none⟩]) (.seq (.region [⟨.p 2, .mv (.c (.int .i64 (0))), none⟩]) (.seq (.seq (.region [⟨.p 4, .mv (.p 0), none⟩, ⟨.p 5, .len .sl (.p 4), none⟩, ⟨.p 6, .mv (.c (.int .i64 (0))), none⟩]) (.block 0 (.loop b145_0))) (.seq (.region [⟨.l 17, .mv (.p 2), none⟩, ⟨.p 1, .mv (.l 17), none⟩]) (.ret))))
theorem ft145 : FT 145 = some ⟨18, [0, 2, 3, 5, 6, 7, 8], [.var (.p 1)], b145⟩ := by kernel_rfl
def b142 : ICode := .seq (.region [⟨.p 2, .mv (.c (.int .i64 (0))), none⟩]) (.seq (.region [⟨.l 7, .mv (.p 0), none⟩, ⟨.l 8, .call (.c (.fn (.func 192) [] [])) [(.l 7)], none⟩, ⟨.p 3, .mv (.l 8), none⟩]) (.seq (.region [⟨.l 9, .mv (.p 1), none⟩, ⟨.l 10, .call (.c (.fn (.func 192) [] [])) [(.l 9)], none⟩, ⟨.p 4, .mv (.l 10), none⟩]) (.seq (.seq (.region [⟨.l 11, .mv (.p 3), none⟩]) (.cond (.l 11) (.seq (.seq (.region [⟨.l 12, .mv (.p 4), none⟩]) (.cond (.l 12) (.seq (.region [⟨.p 2, .mv (.c (.int .i64 (0))), none⟩]) (.ret)) (.skip))) (.seq (.region [⟨.p 2, .mv (.c (.int .i64 (-1))), none⟩]) (.ret))) (.skip))) (.seq (.seq (.region [⟨.l 13, .mv (.p 4), none⟩]) (.cond (.l 13) (.seq (.region [⟨.p 2, .mv (.c (.int .i64 (1))), none⟩]) (.ret)) (.skip))) (.seq (.seq (.region [⟨.l 14, .mv (.p 0), none⟩, ⟨.l 15, .mv (.p 1), none⟩, ⟨.l 16, .bin .lss (.l 14) (.l 15), none⟩]) (.cond (.l 16) (.seq (.region [⟨.p 2, .mv (.c (.int .i64 (-1))), none⟩]) (.ret)) (.skip))) (.seq (.seq (.region [⟨.l 17, .mv (.p 0), none⟩, ⟨.l 18, .mv (.p 1), none⟩, ⟨.l 19, .bin .gtr (.l 17) (.l 18), none⟩]) (.cond (.l 19) (.seq (.region [⟨.p 2, .mv (.c (.int .i64 (1))), none⟩]) (.ret)) (.skip))) (.seq (.region [⟨.p 2, .mv (.c (.int .i64 (0))), none⟩]) (.ret))))))))
theorem ft142 : FT 142 = some ⟨20, [0, 1, 4, 5, 6], [.var (.p 2)], b142⟩ := by kernel_rfl
def b192 : ICode := .seq (.region [⟨.p 1, .mv (.c (.bool false)), none⟩]) (.seq (.region [⟨.l 3, .mv (.p 0), none⟩, ⟨.l 4, .mv (.p 0), none⟩, ⟨.l 5, .bin .neq (.l 3) (.l 4), none⟩, ⟨.p 1, .mv (.l 5), none⟩]) (.ret))
theorem ft192 : FT 192 = some ⟨6, [0, 2], [.var (.p 1)], b192⟩ := by kernel_rfl
def b193_0 : ICode := .seq (.seq (.region [⟨.l 11, .mv (.p 5), none⟩, ⟨.l 12, .mv (.p 1), none⟩, ⟨.l 13, .bin .leq (.l 11) (.l 12), none⟩]) (.cond (.l 13) (.skip) (.exit 0))) (.block 1 (.seq (.region [⟨.l 14, .mv (.p 0), none⟩, ⟨.l 15, .mv (.p 4), none⟩, ⟨.l 16, .mv (.p 5), none⟩, ⟨.l 17, .mv (.p 2), none⟩, ⟨.l 18, .call (.c (.fn (.func 229) [] [])) [(.l 14), (.l 15), (.l 16), (.l 17)], none⟩]) (.seq (.region [⟨.l 19, .mv (.p 5), none⟩, ⟨.p 4, .mv (.l 19), none⟩]) (.region [⟨.l 20, .mv (.p 5), none⟩, ⟨.l 21, .mv (.p 3), none⟩, ⟨.l 22, .bin .add (.l 20) (.l 21), none⟩, ⟨.p 5, .mv (.l 22), none⟩]))))
def b193_1 : ICode := .seq (.seq (.region [⟨.l 33, .mv (.p 5), none⟩, ⟨.l 34, .mv (.p 1), none⟩, ⟨.l 35, .bin .leq (.l 33) (.l 34), none⟩]) (.cond (.l 35) (.skip) (.exit 4))) (.block 5 (.seq (.region [⟨.l 36, .mv (.p 0), none⟩, ⟨.l 37, .mv (.p 4), none⟩, ⟨.l 38, .mv (.p 4), none⟩, ⟨.l 39, .mv (.p 3), none⟩, ⟨.l 40, .bin .add (.l 38) (.l 39), none⟩, ⟨.l 41, .mv (.p 5), none⟩, ⟨.l 42, .mv (.p 2), none⟩, ⟨.l 43, .call (.c (.fn (.func 230) [] [])) [(.l 36), (.l 37), (.l 40), (.l 41), (.l 42)], none⟩]) (.seq (.region [⟨.l 44, .mv (.p 5), none⟩, ⟨.p 4, .mv (.l 44), none⟩]) (.region [⟨.l 45, .mv (.p 5), none⟩, ⟨.l 46, .mv (.p 3), none⟩, ⟨.l 47, .bin .mul (.c (.int .i64 (2))) (.l 46), none⟩, ⟨.l 48, .bin .add (.l 45) (.l 47), none⟩, ⟨.p 5, .mv (.l 48), none⟩]))))
def b193_2 : ICode := .seq (.seq (.region [⟨.l 28, .mv (.p 3), none⟩, ⟨.l 29, .mv (.p 1), none⟩, ⟨.l 30, .bin .lss (.l 28) (.l 29), none⟩]) (.cond (.l 30) (.skip) (.exit 2))) (.block 3 (.seq (.region [⟨.l 31, .mv (.p 3), none⟩, ⟨.l 32, .bin .mul (.c (.int .i64 (2))) (.l 31), none⟩, ⟨.p 4, .mv (.c (.int .i64 (0))), none⟩, ⟨.p 5, .mv (.l 32), none⟩]) (.seq (.block 4 (.loop b193_1)) (.seq (.seq (.region [⟨.l 49, .mv (.p 4), none⟩, ⟨.l 50, .mv (.p 3), none⟩, ⟨.l 51, .bin .add (.l 49) (.l 50), none⟩, ⟨.p 6, .mv (.l 51), none⟩]) (.seq (.region [⟨.l 52, .mv (.p 6), none⟩, ⟨.l 53, .mv (.p 1), none⟩, ⟨.l 54, .bin .lss (.l 52) (.l 53), none⟩]) (.cond (.l 54) (.region [⟨.l 55, .mv (.p 0), none⟩, ⟨.l 56, .mv (.p 4), none⟩, ⟨.l 57, .mv (.p 6), none⟩, ⟨.l 58, .mv (.p 1), none⟩, ⟨.l 59, .mv (.p 2), none⟩, ⟨.l 60, .call (.c (.fn (.func 230) [] [])) [(.l 55), (.l 56), (.l 57), (.l 58), (.l 59)], none⟩]) (.skip)))) (.region [⟨.l 61, .mv (.p 3), none⟩, ⟨.l 62, .bin .mul (.l 61) (.c (.int .i64 (2))), none⟩, ⟨.p 3, .mv (.l 62), none⟩])))))
def b193 : ICode := .seq (.region [⟨.p 3, .mv (.c (.int .i64 (20))), none⟩]) (.seq (.region [⟨.l 10, .mv (.p 3), none⟩, ⟨.p 4, .mv (.c (.int .i64 (0))), none⟩, ⟨.p 5, .mv (.l 10), none⟩]) (.seq (.block 0 (.loop b193_0)) (.seq (.region [⟨.l 23, .mv (.p 0), none⟩, ⟨.l 24, .mv (.p 4), none⟩, ⟨.l 25, .mv (.p 1), none⟩, ⟨.l 26, .mv (.p 2), none⟩, ⟨.l 27, .call (.c (.fn (.func 229) [] [])) [(.l 23), (.l 24), (.l 25), (.l 26)], none⟩]) (.block 2 (.loop b193_2)))))
theorem ft193 : FT 193 = some ⟨63, [0, 1, 2, 6, 7, 8, 9], [], b193⟩ := by kernel_rfl
def b229_0 : ICode := .seq (.seq (.draw [(⟨.l 18, .mv (.p 5), none⟩, []), (⟨.l 19, .mv (.p 1), none⟩, [0]), (⟨.l 20, .bin .gtr (.l 18) (.l 19), none⟩, []), (⟨.l 21, .mv (.l 20), none⟩, []), (⟨.l 22, .mv (.p 3), some ((.l 21), true)⟩, []), (⟨.l 23, .mv (.p 0), some ((.l 21), true)⟩, [4]), (⟨.l 24, .mv (.p 5), some ((.l 21), true)⟩, [4, 5]), (⟨.l 25, .iaddr none 5 (.l 23) (.l 24), some ((.l 21), true)⟩, [4]), (⟨.l 26, .load 5 true (.l 25), some ((.l 21), true)⟩, [4]), (⟨.l 27, .mv (.p 0), some ((.l 21), true)⟩, [4, 5, 6, 7, 8]), (⟨.l 28, .mv (.p 5), some ((.l 21), true)⟩, [4, 5, 6, 7, 8, 9]), (⟨.l 29, .bin .sub (.l 28) (.c (.int .i64 (1))), some ((.l 21), true)⟩, [4, 5, 6, 7, 8, 9]), (⟨.l 30, .iaddr none 5 (.l 27) (.l 29), some ((.l 21), true)⟩, [4, 5, 6, 7, 8]), (⟨.l 31, .load 5 true (.l 30), some ((.l 21), true)⟩, [4, 5, 6, 7, 8]), (⟨.l 32, .call (.l 22) [(.l 26), (.l 31)], some ((.l 21), true)⟩, []), (⟨.l 33, .bin .lss (.l 32) (.c (.int .i64 (0))), some ((.l 21), true)⟩, []), (⟨.l 34, .pick (.l 21) (.l 33) (.c (.bool false)), none⟩, [])]) (.cond (.l 34) (.skip) (.exit 2))) (.seq (.block 3 (.draw [(⟨.l 37, .mv (.p 0), none⟩, []), (⟨.l 38, .mv (.p 5), none⟩, [0]), (⟨.l 39, .mv (.p 0), none⟩, [0, 1]), (⟨.l 40, .mv (.p 5), none⟩, [0, 1, 2]), (⟨.l 41, .bin .sub (.l 40) (.c (.int .i64 (1))), none⟩, [0, 1, 2]), (⟨.l 42, .mv (.p 0), none⟩, [0, 1, 2, 3, 4]), (⟨.l 43, .mv (.p 5), none⟩, [0, 1, 2, 3, 4, 5]), (⟨.l 44, .bin .sub (.l 43) (.c (.int .i64 (1))), none⟩, [0, 1, 2, 3, 4, 5]), (⟨.l 45, .iaddr none 5 (.l 42) (.l 44), none⟩, [0, 1, 2, 3, 4]), (⟨.l 46, .load 5 true (.l 45), none⟩, [0, 1, 2, 3, 4]), (⟨.l 47, .mv (.p 0), none⟩, [0, 1, 2, 3, 4, 5, 6, 7, 8, 9]), (⟨.l 48, .mv (.p 5), none⟩, [0, 1, 2, 3, 4, 5, 6, 7, 8, 9, 10]), (⟨.l 49, .iaddr none 5 (.l 47) (.l 48), none⟩, [0, 1, 2, 3, 4, 5, 6, 7, 8, 9]), (⟨.l 50, .load 5 true (.l 49), none⟩, [0, 1, 2, 3, 4, 5, 6, 7, 8, 9]), (⟨.l 51, .iaddr none 5 (.l 37) (.l 38), none⟩, [2, 3, 4]), (⟨.no, .store 5 (.l 51) (.l 46), none⟩, [2, 3, 4]), (⟨.l 52, .iaddr none 5 (.l 39) (.l 41), none⟩, []), (⟨.no, .store 5 (.l 52) (.l 50), none⟩, [])])) (.region [⟨.l 35, .mv (.p 5), none⟩, ⟨.l 36, .bin .sub (.l 35) (.c (.int .i64 (1))), none⟩, ⟨.p 5, .mv (.l 36), none⟩]))
def b229_1 : ICode := .seq (.seq (.region [⟨.l 12, .mv (.p 4), none⟩, ⟨.l 13, .mv (.p 2), none⟩, ⟨.l 14, .bin .lss (.l 12) (.l 13), none⟩]) (.cond (.l 14) (.skip) (.exit 0))) (.seq (.block 1 (.seq (.region [⟨.l 17, .mv (.p 4), none⟩, ⟨.p 5, .mv (.l 17), none⟩]) (.block 2 (.loop b229_0)))) (.region [⟨.l 15, .mv (.p 4), none⟩, ⟨.l 16, .bin .add (.l 15) (.c (.int .i64 (1))), none⟩, ⟨.p 4, .mv (.l 16), none⟩]))
def b229 : ICode := .seq (.region [⟨.l 10, .mv (.p 1), none⟩, ⟨.l 11, .bin .add (.l 10) (.c (.int .i64 (1))), none⟩, ⟨.p 4, .mv (.l 11), none⟩]) (.block 0 (.loop b229_1))
theorem ft229 : FT 229 = some ⟨53, [0, 1, 2, 3, 8, 9], [], b229⟩ := by kernel_rfl
def b230_0 : ICode := .seq (.seq (.region [⟨.l 31, .mv (.p 5), none⟩, ⟨.l 32, .mv (.p 6), none⟩, ⟨.l 33, .bin .lss (.l 31) (.l 32), none⟩]) (.cond (.l 33) (.skip) (.exit 0))) (.block 1 (.seq (.region [⟨.l 34, .mv (.p 5), none⟩, ⟨.l 35, .mv (.p 6), none⟩, ⟨.l 36, .bin .add (.l 34) (.l 35), none⟩, ⟨.l 37, .convInt .u64 (.l 36), none⟩, ⟨.l 38, .bin .shr (.l 37) (.c (.int .u64 (1))), none⟩, ⟨.l 39, .convInt .i64 (.l 38), none⟩, ⟨.p 7, .mv (.l 39), none⟩]) (.seq (.draw [(⟨.l 40, .mv (.p 4), none⟩, []), (⟨.l 41, .mv (.p 0), none⟩, [0]), (⟨.l 42, .mv (.p 7), none⟩, [0, 1]), (⟨.l 43, .iaddr none 5 (.l 41) (.l 42), none⟩, [0]), (⟨.l 44, .load 5 true (.l 43), none⟩, [0]), (⟨.l 45, .mv (.p 0), none⟩, [0, 1, 2, 3, 4]), (⟨.l 46, .mv (.p 1), none⟩, [0, 1, 2, 3, 4, 5]), (⟨.l 47, .iaddr none 5 (.l 45) (.l 46), none⟩, [0, 1, 2, 3, 4]), (⟨.l 48, .load 5 true (.l 47), none⟩, [0, 1, 2, 3, 4]), (⟨.l 49, .call (.l 40) [(.l 44), (.l 48)], none⟩, []), (⟨.l 50, .bin .lss (.l 49) (.c (.int .i64 (0))), none⟩, [])]) (.cond (.l 50) (.region [⟨.l 51, .mv (.p 7), none⟩, ⟨.l 52, .bin .add (.l 51) (.c (.int .i64 (1))), none⟩, ⟨.p 5, .mv (.l 52), none⟩]) (.region [⟨.l 53, .mv (.p 7), none⟩, ⟨.p 6, .mv (.l 53), none⟩])))))
def b230_1 : ICode := .seq (.seq (.region [⟨.l 55, .mv (.p 8), none⟩, ⟨.l 56, .mv (.p 5), none⟩, ⟨.l 57, .bin .sub (.l 56) (.c (.int .i64 (1))), none⟩, ⟨.l 58, .bin .lss (.l 55) (.l 57), none⟩]) (.cond (.l 58) (.skip) (.exit 2))) (.seq (.block 3 (.draw [(⟨.l 61, .mv (.p 0), none⟩, []), (⟨.l 62, .mv (.p 8), none⟩, [0]), (⟨.l 63, .mv (.p 0), none⟩, [0, 1]), (⟨.l 64, .mv (.p 8), none⟩, [0, 1, 2]), (⟨.l 65, .bin .add (.l 64) (.c (.int .i64 (1))), none⟩, [0, 1, 2]), (⟨.l 66, .mv (.p 0), none⟩, [0, 1, 2, 3, 4]), (⟨.l 67, .mv (.p 8), none⟩, [0, 1, 2, 3, 4, 5]), (⟨.l 68, .bin .add (.l 67) (.c (.int .i64 (1))), none⟩, [0, 1, 2, 3, 4, 5]), (⟨.l 69, .iaddr none 5 (.l 66) (.l 68), none⟩, [0, 1, 2, 3, 4]), (⟨.l 70, .load 5 true (.l 69), none⟩, [0, 1, 2, 3, 4]), (⟨.l 71, .mv (.p 0), none⟩, [0, 1, 2, 3, 4, 5, 6, 7, 8, 9]), (⟨.l 72, .mv (.p 8), none⟩, [0, 1, 2, 3, 4, 5, 6, 7, 8, 9, 10]), (⟨.l 73, .iaddr none 5 (.l 71) (.l 72), none⟩, [0, 1, 2, 3, 4, 5, 6, 7, 8, 9]), (⟨.l 74, .load 5 true (.l 73), none⟩, [0, 1, 2, 3, 4, 5, 6, 7, 8, 9]), (⟨.l 75, .iaddr none 5 (.l 61) (.l 62), none⟩, [2, 3, 4]), (⟨.no, .store 5 (.l 75) (.l 70), none⟩, [2, 3, 4]), (⟨.l 76, .iaddr none 5 (.l 63) (.l 65), none⟩, []), (⟨.no, .store 5 (.l 76) (.l 74), none⟩, [])])) (.region [⟨.l 59, .mv (.p 8), none⟩, ⟨.l 60, .bin .add (.l 59) (.c (.int .i64 (1))), none⟩, ⟨.p 8, .mv (.l 60), none⟩]))
def b230_2 : ICode := .seq (.seq (.region [⟨.l 83, .mv (.p 9), none⟩, ⟨.l 84, .mv (.p 10), none⟩, ⟨.l 85, .bin .lss (.l 83) (.l 84), none⟩]) (.cond (.l 85) (.skip) (.exit 4))) (.block 5 (.seq (.region [⟨.l 86, .mv (.p 9), none⟩, ⟨.l 87, .mv (.p 10), none⟩, ⟨.l 88, .bin .add (.l 86) (.l 87), none⟩, ⟨.l 89, .convInt .u64 (.l 88), none⟩, ⟨.l 90, .bin .shr (.l 89) (.c (.int .u64 (1))), none⟩, ⟨.l 91, .convInt .i64 (.l 90), none⟩, ⟨.p 11, .mv (.l 91), none⟩]) (.seq (.draw [(⟨.l 92, .mv (.p 4), none⟩, []), (⟨.l 93, .mv (.p 0), none⟩, [0]), (⟨.l 94, .mv (.p 2), none⟩, [0, 1]), (⟨.l 95, .iaddr none 5 (.l 93) (.l 94), none⟩, [0]), (⟨.l 96, .load 5 true (.l 95), none⟩, [0]), (⟨.l 97, .mv (.p 0), none⟩, [0, 1, 2, 3, 4]), (⟨.l 98, .mv (.p 11), none⟩, [0, 1, 2, 3, 4, 5]), (⟨.l 99, .iaddr none 5 (.l 97) (.l 98), none⟩, [0, 1, 2, 3, 4]), (⟨.l 100, .load 5 true (.l 99), none⟩, [0, 1, 2, 3, 4]), (⟨.l 101, .call (.l 92) [(.l 96), (.l 100)], none⟩, []), (⟨.l 102, .bin .lss (.l 101) (.c (.int .i64 (0))), none⟩, []), (⟨.l 103, .un .not (.l 102), none⟩, [])]) (.cond (.l 103) (.region [⟨.l 104, .mv (.p 11), none⟩, ⟨.l 105, .bin .add (.l 104) (.c (.int .i64 (1))), none⟩, ⟨.p 9, .mv (.l 105), none⟩]) (.region [⟨.l 106, .mv (.p 11), none⟩, ⟨.p 10, .mv (.l 106), none⟩])))))
def b230_3 : ICode := .seq (.seq (.region [⟨.l 108, .mv (.p 12), none⟩, ⟨.l 109, .mv (.p 9), none⟩, ⟨.l 110, .bin .gtr (.l 108) (.l 109), none⟩]) (.cond (.l 110) (.skip) (.exit 6))) (.seq (.block 7 (.draw [(⟨.l 113, .mv (.p 0), none⟩, []), (⟨.l 114, .mv (.p 12), none⟩, [0]), (⟨.l 115, .mv (.p 0), none⟩, [0, 1]), (⟨.l 116, .mv (.p 12), none⟩, [0, 1, 2]), (⟨.l 117, .bin .sub (.l 116) (.c (.int .i64 (1))), none⟩, [0, 1, 2]), (⟨.l 118, .mv (.p 0), none⟩, [0, 1, 2, 3, 4]), (⟨.l 119, .mv (.p 12), none⟩, [0, 1, 2, 3, 4, 5]), (⟨.l 120, .bin .sub (.l 119) (.c (.int .i64 (1))), none⟩, [0, 1, 2, 3, 4, 5]), (⟨.l 121, .iaddr none 5 (.l 118) (.l 120), none⟩, [0, 1, 2, 3, 4]), (⟨.l 122, .load 5 true (.l 121), none⟩, [0, 1, 2, 3, 4]), (⟨.l 123, .mv (.p 0), none⟩, [0, 1, 2, 3, 4, 5, 6, 7, 8, 9]), (⟨.l 124, .mv (.p 12), none⟩, [0, 1, 2, 3, 4, 5, 6, 7, 8, 9, 10]), (⟨.l 125, .iaddr none 5 (.l 123) (.l 124), none⟩, [0, 1, 2, 3, 4, 5, 6, 7, 8, 9]), (⟨.l 126, .load 5 true (.l 125), none⟩, [0, 1, 2, 3, 4, 5, 6, 7, 8, 9]), (⟨.l 127, .iaddr none 5 (.l 113) (.l 114), none⟩, [2, 3, 4]), (⟨.no, .store 5 (.l 127) (.l 122), none⟩, [2, 3, 4]), (⟨.l 128, .iaddr none 5 (.l 115) (.l 117), none⟩, []), (⟨.no, .store 5 (.l 128) (.l 126), none⟩, [])])) (.region [⟨.l 111, .mv (.p 12), none⟩, ⟨.l 112, .bin .sub (.l 111) (.c (.int .i64 (1))), none⟩, ⟨.p 12, .mv (.l 112), none⟩]))
def b230_4 : ICode := .seq (.seq (.region [⟨.l 149, .mv (.p 15), none⟩, ⟨.l 150, .mv (.p 16), none⟩, ⟨.l 151, .bin .lss (.l 149) (.l 150), none⟩]) (.cond (.l 151) (.skip) (.exit 8))) (.block 9 (.seq (.region [⟨.l 152, .mv (.p 15), none⟩, ⟨.l 153, .mv (.p 16), none⟩, ⟨.l 154, .bin .add (.l 152) (.l 153), none⟩, ⟨.l 155, .convInt .u64 (.l 154), none⟩, ⟨.l 156, .bin .shr (.l 155) (.c (.int .u64 (1))), none⟩, ⟨.l 157, .convInt .i64 (.l 156), none⟩, ⟨.p 18, .mv (.l 157), none⟩]) (.seq (.draw [(⟨.l 158, .mv (.p 4), none⟩, []), (⟨.l 159, .mv (.p 0), none⟩, [0]), (⟨.l 160, .mv (.p 17), none⟩, [0, 1]), (⟨.l 161, .mv (.p 18), none⟩, [0, 1, 2]), (⟨.l 162, .bin .sub (.l 160) (.l 161), none⟩, [0, 1]), (⟨.l 163, .iaddr none 5 (.l 159) (.l 162), none⟩, [0]), (⟨.l 164, .load 5 true (.l 163), none⟩, [0]), (⟨.l 165, .mv (.p 0), none⟩, [0, 1, 2, 3, 4, 5, 6]), (⟨.l 166, .mv (.p 18), none⟩, [0, 1, 2, 3, 4, 5, 6, 7]), (⟨.l 167, .iaddr none 5 (.l 165) (.l 166), none⟩, [0, 1, 2, 3, 4, 5, 6]), (⟨.l 168, .load 5 true (.l 167), none⟩, [0, 1, 2, 3, 4, 5, 6]), (⟨.l 169, .call (.l 158) [(.l 164), (.l 168)], none⟩, []), (⟨.l 170, .bin .lss (.l 169) (.c (.int .i64 (0))), none⟩, []), (⟨.l 171, .un .not (.l 170), none⟩, [])]) (.cond (.l 171) (.region [⟨.l 172, .mv (.p 18), none⟩, ⟨.l 173, .bin .add (.l 172) (.c (.int .i64 (1))), none⟩, ⟨.p 15, .mv (.l 173), none⟩]) (.region [⟨.l 174, .mv (.p 18), none⟩, ⟨.p 16, .mv (.l 174), none⟩])))))
def b230 : ICode := .seq (.seq (.region [⟨.l 25, .mv (.p 2), none⟩, ⟨.l 26, .mv (.p 1), none⟩, ⟨.l 27, .bin .sub (.l 25) (.l 26), none⟩, ⟨.l 28, .bin .eql (.l 27) (.c (.int .i64 (1))), none⟩]) (.cond (.l 28) (.seq (.region [⟨.l 29, .mv (.p 2), none⟩, ⟨.p 5, .mv (.l 29), none⟩]) (.seq (.region [⟨.l 30, .mv (.p 3), none⟩, ⟨.p 6, .mv (.l 30), none⟩]) (.seq (.block 0 (.loop b230_0)) (.seq (.seq (.region [⟨.l 54, .mv (.p 1), none⟩, ⟨.p 8, .mv (.l 54), none⟩]) (.block 2 (.loop b230_1))) (.ret))))) (.skip))) (.seq (.seq (.region [⟨.l 77, .mv (.p 3), none⟩, ⟨.l 78, .mv (.p 2), none⟩, ⟨.l 79, .bin .sub (.l 77) (.l 78), none⟩, ⟨.l 80, .bin .eql (.l 79) (.c (.int .i64 (1))), none⟩]) (.cond (.l 80) (.seq (.region [⟨.l 81, .mv (.p 1), none⟩, ⟨.p 9, .mv (.l 81), none⟩]) (.seq (.region [⟨.l 82, .mv (.p 2), none⟩, ⟨.p 10, .mv (.l 82), none⟩]) (.seq (.block 4 (.loop b230_2)) (.seq (.seq (.region [⟨.l 107, .mv (.p 2), none⟩, ⟨.p 12, .mv (.l 107), none⟩]) (.block 6 (.loop b230_3))) (.ret))))) (.skip))) (.seq (.region [⟨.l 129, .mv (.p 1), none⟩, ⟨.l 130, .mv (.p 3), none⟩, ⟨.l 131, .bin .add (.l 129) (.l 130), none⟩, ⟨.l 132, .convInt .u64 (.l 131), none⟩, ⟨.l 133, .bin .shr (.l 132) (.c (.int .u64 (1))), none⟩, ⟨.l 134, .convInt .i64 (.l 133), none⟩, ⟨.p 13, .mv (.l 134), none⟩]) (.seq (.region [⟨.l 135, .mv (.p 13), none⟩, ⟨.l 136, .mv (.p 2), none⟩, ⟨.l 137, .bin .add (.l 135) (.l 136), none⟩, ⟨.p 14, .mv (.l 137), none⟩]) (.seq (.region [⟨.p 15, .mv (.c (.int .i64 (0))), none⟩, ⟨.p 16, .mv (.c (.int .i64 (0))), none⟩]) (.seq (.seq (.region [⟨.l 138, .mv (.p 2), none⟩, ⟨.l 139, .mv (.p 13), none⟩, ⟨.l 140, .bin .gtr (.l 138) (.l 139), none⟩]) (.cond (.l 140) (.seq (.region [⟨.l 141, .mv (.p 14), none⟩, ⟨.l 142, .mv (.p 3), none⟩, ⟨.l 143, .bin .sub (.l 141) (.l 142), none⟩, ⟨.p 15, .mv (.l 143), none⟩]) (.region [⟨.l 144, .mv (.p 13), none⟩, ⟨.p 16, .mv (.l 144), none⟩])) (.seq (.region [⟨.l 145, .mv (.p 1), none⟩, ⟨.p 15, .mv (.l 145), none⟩]) (.region [⟨.l 146, .mv (.p 2), none⟩, ⟨.p 16, .mv (.l 146), none⟩])))) (.seq (.region [⟨.l 147, .mv (.p 14), none⟩, ⟨.l 148, .bin .sub (.l 147) (.c (.int .i64 (1))), none⟩, ⟨.p 17, .mv (.l 148), none⟩]) (.seq (.block 8 (.loop b230_4)) (.seq (.region [⟨.l 175, .mv (.p 14), none⟩, ⟨.l 176, .mv (.p 15), none⟩, ⟨.l 177, .bin .sub (.l 175) (.l 176), none⟩, ⟨.p 19, .mv (.l 177), none⟩]) (.seq (.seq (.region [⟨.l 178, .mv (.p 15), none⟩, ⟨.l 179, .mv (.p 2), none⟩, ⟨.l 180, .bin .lss (.l 178) (.l 179), none⟩, ⟨.l 181, .mv (.l 180), none⟩, ⟨.l 182, .mv (.p 2), some ((.l 181), true)⟩, ⟨.l 183, .mv (.p 19), some ((.l 181), true)⟩, ⟨.l 184, .bin .lss (.l 182) (.l 183), some ((.l 181), true)⟩, ⟨.l 185, .pick (.l 181) (.l 184) (.c (.bool false)), none⟩]) (.cond (.l 185) (.region [⟨.l 186, .mv (.p 0), none⟩, ⟨.l 187, .mv (.p 15), none⟩, ⟨.l 188, .mv (.p 2), none⟩, ⟨.l 189, .mv (.p 19), none⟩, ⟨.l 190, .mv (.p 4), none⟩, ⟨.l 191, .call (.c (.fn (.func 253) [] [])) [(.l 186), (.l 187), (.l 188), (.l 189), (.l 190)], none⟩]) (.skip))) (.seq (.seq (.region [⟨.l 192, .mv (.p 1), none⟩, ⟨.l 193, .mv (.p 15), none⟩, ⟨.l 194, .bin .lss (.l 192) (.l 193), none⟩, ⟨.l 195, .mv (.l 194), none⟩, ⟨.l 196, .mv (.p 15), some ((.l 195), true)⟩, ⟨.l 197, .mv (.p 13), some ((.l 195), true)⟩, ⟨.l 198, .bin .lss (.l 196) (.l 197), some ((.l 195), true)⟩, ⟨.l 199, .pick (.l 195) (.l 198) (.c (.bool false)), none⟩]) (.cond (.l 199) (.region [⟨.l 200, .mv (.p 0), none⟩, ⟨.l 201, .mv (.p 1), none⟩, ⟨.l 202, .mv (.p 15), none⟩, ⟨.l 203, .mv (.p 13), none⟩, ⟨.l 204, .mv (.p 4), none⟩, ⟨.l 205, .call (.c (.fn (.func 230) [] [])) [(.l 200), (.l 201), (.l 202), (.l 203), (.l 204)], none⟩]) (.skip))) (.seq (.region [⟨.l 206, .mv (.p 13), none⟩, ⟨.l 207, .mv (.p 19), none⟩, ⟨.l 208, .bin .lss (.l 206) (.l 207), none⟩, ⟨.l 209, .mv (.l 208), none⟩, ⟨.l 210, .mv (.p 19), some ((.l 209), true)⟩, ⟨.l 211, .mv (.p 3), some ((.l 209), true)⟩, ⟨.l 212, .bin .lss (.l 210) (.l 211), some ((.l 209), true)⟩, ⟨.l 213, .pick (.l 209) (.l 212) (.c (.bool false)), none⟩]) (.cond (.l 213) (.region [⟨.l 214, .mv (.p 0), none⟩, ⟨.l 215, .mv (.p 13), none⟩, ⟨.l 216, .mv (.p 19), none⟩, ⟨.l 217, .mv (.p 3), none⟩, ⟨.l 218, .mv (.p 4), none⟩, ⟨.l 219, .call (.c (.fn (.func 230) [] [])) [(.l 214), (.l 215), (.l 216), (.l 217), (.l 218)], none⟩]) (.skip)))))))))))))
theorem ft230 : FT 230 = some ⟨220, [0, 1, 2, 3, 4, 10, 11, 12, 13, 14, 15, 16, 17, 18, 19, 20, 21, 22, 23, 24], [], b230⟩ := by kernel_rfl
def b253_0 : ICode := .seq (.seq (.region [⟨.l 18, .mv (.p 5), none⟩, ⟨.l 19, .mv (.p 6), none⟩, ⟨.l 20, .bin .neq (.l 18) (.l 19), none⟩]) (.cond (.l 20) (.skip) (.exit 0))) (.block 1 (.seq (.region [⟨.l 21, .mv (.p 5), none⟩, ⟨.l 22, .mv (.p 6), none⟩, ⟨.l 23, .bin .gtr (.l 21) (.l 22), none⟩]) (.cond (.l 23) (.seq (.region [⟨.l 24, .mv (.p 0), none⟩, ⟨.l 25, .mv (.p 2), none⟩, ⟨.l 26, .mv (.p 5), none⟩, ⟨.l 27, .bin .sub (.l 25) (.l 26), none⟩, ⟨.l 28, .mv (.p 2), none⟩, ⟨.l 29, .mv (.p 6), none⟩, ⟨.l 30, .mv (.p 4), none⟩, ⟨.l 31, .call (.c (.fn (.func 284) [] [])) [(.l 24), (.l 27), (.l 28), (.l 29), (.l 30)], none⟩]) (.region [⟨.l 32, .mv (.p 5), none⟩, ⟨.l 33, .mv (.p 6), none⟩, ⟨.l 34, .bin .sub (.l 32) (.l 33), none⟩, ⟨.p 5, .mv (.l 34), none⟩])) (.seq (.region [⟨.l 35, .mv (.p 0), none⟩, ⟨.l 36, .mv (.p 2), none⟩, ⟨.l 37, .mv (.p 5), none⟩, ⟨.l 38, .bin .sub (.l 36) (.l 37), none⟩, ⟨.l 39, .mv (.p 2), none⟩, ⟨.l 40, .mv (.p 6), none⟩, ⟨.l 41, .bin .add (.l 39) (.l 40), none⟩, ⟨.l 42, .mv (.p 5), none⟩, ⟨.l 43, .bin .sub (.l 41) (.l 42), none⟩, ⟨.l 44, .mv (.p 5), none⟩, ⟨.l 45, .mv (.p 4), none⟩, ⟨.l 46, .call (.c (.fn (.func 284) [] [])) [(.l 35), (.l 38), (.l 43), (.l 44), (.l 45)], none⟩]) (.region [⟨.l 47, .mv (.p 6), none⟩, ⟨.l 48, .mv (.p 5), none⟩, ⟨.l 49, .bin .sub (.l 47) (.l 48), none⟩, ⟨.p 6, .mv (.l 49), none⟩])))))
def b253 : ICode := .seq (.region [⟨.l 12, .mv (.p 2), none⟩, ⟨.l 13, .mv (.p 1), none⟩, ⟨.l 14, .bin .sub (.l 12) (.l 13), none⟩, ⟨.p 5, .mv (.l 14), none⟩]) (.seq (.region [⟨.l 15, .mv (.p 3), none⟩, ⟨.l 16, .mv (.p 2), none⟩, ⟨.l 17, .bin .sub (.l 15) (.l 16), none⟩, ⟨.p 6, .mv (.l 17), none⟩]) (.seq (.block 0 (.loop b253_0)) (.region [⟨.l 50, .mv (.p 0), none⟩, ⟨.l 51, .mv (.p 2), none⟩, ⟨.l 52, .mv (.p 5), none⟩, ⟨.l 53, .bin .sub (.l 51) (.l 52), none⟩, ⟨.l 54, .mv (.p 2), none⟩, ⟨.l 55, .mv (.p 5), none⟩, ⟨.l 56, .mv (.p 4), none⟩, ⟨.l 57, .call (.c (.fn (.func 284) [] [])) [(.l 50), (.l 53), (.l 54), (.l 55), (.l 56)], none⟩])))
theorem ft253 : FT 253 = some ⟨58, [0, 1, 2, 3, 4, 10, 11], [], b253⟩ := by kernel_rfl
def b284_0 : ICode := .seq (.seq (.region [⟨.l 11, .mv (.p 5), none⟩, ⟨.l 12, .mv (.p 3), none⟩, ⟨.l 13, .bin .lss (.l 11) (.l 12), none⟩]) (.cond (.l 13) (.skip) (.exit 0))) (.seq (.block 1 (.draw [(⟨.l 16, .mv (.p 0), none⟩, []), (⟨.l 17, .mv (.p 1), none⟩, [0]), (⟨.l 18, .mv (.p 5), none⟩, [0, 1]), (⟨.l 19, .bin .add (.l 17) (.l 18), none⟩, [0]), (⟨.l 20, .mv (.p 0), none⟩, [0, 1, 2, 3]), (⟨.l 21, .mv (.p 2), none⟩, [0, 1, 2, 3, 4]), (⟨.l 22, .mv (.p 5), none⟩, [0, 1, 2, 3, 4, 5]), (⟨.l 23, .bin .add (.l 21) (.l 22), none⟩, [0, 1, 2, 3, 4]), (⟨.l 24, .mv (.p 0), none⟩, [0, 1, 2, 3, 4, 5, 6, 7]), (⟨.l 25, .mv (.p 2), none⟩, [0, 1, 2, 3, 4, 5, 6, 7, 8]), (⟨.l 26, .mv (.p 5), none⟩, [0, 1, 2, 3, 4, 5, 6, 7, 8, 9]), (⟨.l 27, .bin .add (.l 25) (.l 26), none⟩, [0, 1, 2, 3, 4, 5, 6, 7, 8]), (⟨.l 28, .iaddr none 5 (.l 24) (.l 27), none⟩, [0, 1, 2, 3, 4, 5, 6, 7]), (⟨.l 29, .load 5 true (.l 28), none⟩, [0, 1, 2, 3, 4, 5, 6, 7]), (⟨.l 30, .mv (.p 0), none⟩, [0, 1, 2, 3, 4, 5, 6, 7, 8, 9, 10, 11, 12, 13]), (⟨.l 31, .mv (.p 1), none⟩, [0, 1, 2, 3, 4, 5, 6, 7, 8, 9, 10, 11, 12, 13, 14]), (⟨.l 32, .mv (.p 5), none⟩, [0, 1, 2, 3, 4, 5, 6, 7, 8, 9, 10, 11, 12, 13, 14, 15]), (⟨.l 33, .bin .add (.l 31) (.l 32), none⟩, [0, 1, 2, 3, 4, 5, 6, 7, 8, 9, 10, 11, 12, 13, 14]), (⟨.l 34, .iaddr none 5 (.l 30) (.l 33), none⟩, [0, 1, 2, 3, 4, 5, 6, 7, 8, 9, 10, 11, 12, 13]), (⟨.l 35, .load 5 true (.l 34), none⟩, [0, 1, 2, 3, 4, 5, 6, 7, 8, 9, 10, 11, 12, 13]), (⟨.l 36, .iaddr none 5 (.l 16) (.l 19), none⟩, [4, 5, 6, 7]), (⟨.no, .store 5 (.l 36) (.l 29), none⟩, [4, 5, 6, 7]), (⟨.l 37, .iaddr none 5 (.l 20) (.l 23), none⟩, []), (⟨.no, .store 5 (.l 37) (.l 35), none⟩, [])])) (.region [⟨.l 14, .mv (.p 5), none⟩, ⟨.l 15, .bin .add (.l 14) (.c (.int .i64 (1))), none⟩, ⟨.p 5, .mv (.l 15), none⟩]))
def b284 : ICode := .seq (.region [⟨.p 5, .mv (.c (.int .i64 (0))), none⟩]) (.block 0 (.loop b284_0))
theorem ft284 : FT 284 = some ⟨38, [0, 1, 2, 3, 4, 10], [], b284⟩ := by kernel_rfl
def b124_0 : ICode := .seq (.seq (.region [⟨.l 12, .mv (.p 3), none⟩, ⟨.l 13, .mv (.p 0), none⟩, ⟨.l 14, .len .sl (.l 13), none⟩, ⟨.l 15, .bin .lss (.l 12) (.l 14), none⟩]) (.cond (.l 15) (.skip) (.exit 0))) (.seq (.block 1 (.region [⟨.l 18, .mv (.p 2), none⟩, ⟨.l 19, .mv (.p 0), none⟩, ⟨.l 20, .mv (.p 3), none⟩, ⟨.l 21, .iaddr none 1 (.l 19) (.l 20), none⟩, ⟨.l 22, .load 1 false (.l 21), none⟩, ⟨.l 23, .mm true [(.l 18), (.l 22)], none⟩, ⟨.p 2, .mv (.l 23), none⟩])) (.region [⟨.l 16, .mv (.p 3), none⟩, ⟨.l 17, .bin .add (.l 16) (.c (.int .i64 (1))), none⟩, ⟨.p 3, .mv (.l 17), none⟩]))
def b124 : ICode := .seq (.region [⟨.p 1, .mv (.c (.int .i64 (0))), none⟩]) (.seq (.seq (.region [⟨.l 5, .mv (.p 0), none⟩, ⟨.l 6, .len .sl (.l 5), none⟩, ⟨.l 7, .bin .lss (.l 6) (.c (.int .i64 (1))), none⟩]) (.cond (.l 7) (.bad) (.skip))) (.seq (.region [⟨.l 9, .mv (.p 0), none⟩, ⟨.l 10, .iaddr none 1 (.l 9) (.c (.int .i64 (0))), none⟩, ⟨.l 11, .load 1 false (.l 10), none⟩, ⟨.p 2, .mv (.l 11), none⟩]) (.seq (.seq (.region [⟨.p 3, .mv (.c (.int .i64 (1))), none⟩]) (.block 0 (.loop b124_0))) (.seq (.region [⟨.l 24, .mv (.p 2), none⟩, ⟨.p 1, .mv (.l 24), none⟩]) (.ret)))))
theorem ft124 : FT 124 = some ⟨25, [0, 2, 3, 4], [.var (.p 1)], b124⟩ := by kernel_rfl
def b79 : ICode := .seq (.region [⟨.p 2, .alloc 70 [.str [], .int .i64 (0), .str []], none⟩]) (.seq (.seq (.region [⟨.l 5, .mv (.p 0), none⟩, ⟨.l 6, .mv (.l 5), none⟩, ⟨.l 7, .mv (.p 1), some ((.l 6), true)⟩, ⟨.l 8, .pick (.l 6) (.l 7) (.c (.bool false)), none⟩]) (.cond (.l 8) (.seq (.region [⟨.l 9, .build [.str [], .int .i64 (0), .str []] [(0, 1, (.c (.str [110, 111, 110, 101]))), (2, 1, (.c (.str [68, 78, 83])))], none⟩, ⟨.no, .store 3 (.p 2) (.l 9), none⟩]) (.ret)) (.skip))) (.seq (.region [⟨.l 10, .build [.str [], .int .i64 (0), .str []] [(0, 1, (.c (.str [110, 111, 110, 101]))), (2, 1, (.c (.str [78, 77])))], none⟩, ⟨.no, .store 3 (.p 2) (.l 10), none⟩]) (.ret)))
theorem ft79 : FT 79 = some ⟨11, [0, 1, 4], [.cell 3 true (.p 2)], b79⟩ := by kernel_rfl
def b80_0 : ICode := .seq (.seq (.region [⟨.l 13, .mv (.p 4), none⟩, ⟨.l 14, .mv (.p 0), none⟩, ⟨.l 15, .len .sl (.l 14), none⟩, ⟨.l 16, .bin .lss (.l 13) (.l 15), none⟩]) (.cond (.l 16) (.skip) (.exit 2))) (.seq (.block 3 (.seq (.region [⟨.l 19, .mv (.p 0), none⟩, ⟨.l 20, .mv (.p 4), none⟩, ⟨.l 21, .iaddr none 5 (.l 19) (.l 20), none⟩, ⟨.l 22, .faddr 1 (.l 21), none⟩, ⟨.l 23, .load 1 false (.l 22), none⟩, ⟨.l 24, .mv (.p 3), none⟩, ⟨.l 25, .bin .eql (.l 23) (.l 24), none⟩]) (.cond (.l 25) (.region [⟨.l 26, .mv (.p 2), none⟩, ⟨.l 27, .mv (.p 0), none⟩, ⟨.l 28, .mv (.p 4), none⟩, ⟨.l 29, .iaddr none 5 (.l 27) (.l 28), none⟩, ⟨.l 30, .load 5 true (.l 29), none⟩, ⟨.l 31, .bslice 74 1 5 [.str [], .int .i64 (0), .str [], .int .i64 (0), .str []] [(0, 5, (.l 30))], none⟩, ⟨.l 32, .append 74 5 64 (.l 26) (.l 31), none⟩, ⟨.p 2, .mv (.l 32), none⟩]) (.skip)))) (.region [⟨.l 17, .mv (.p 4), none⟩, ⟨.l 18, .bin .add (.l 17) (.c (.int .i64 (1))), none⟩, ⟨.p 4, .mv (.l 18), none⟩]))
def b80_1 : ICode := .seq (.seq (.region [⟨.l 7, .mv (.p 3), none⟩, ⟨.l 8, .mv (.p 0), none⟩, ⟨.l 9, .len .sl (.l 8), none⟩, ⟨.l 10, .bin .leq (.l 7) (.l 9), none⟩]) (.cond (.l 10) (.skip) (.exit 0))) (.seq (.block 1 (.seq (.region [⟨.p 4, .mv (.c (.int .i64 (0))), none⟩]) (.block 2 (.loop b80_0)))) (.region [⟨.l 11, .mv (.p 3), none⟩, ⟨.l 12, .bin .add (.l 11) (.c (.int .i64 (1))), none⟩, ⟨.p 3, .mv (.l 12), none⟩]))
def b80_2 : ICode := .seq (.seq (.region [⟨.l 33, .mv (.p 5), none⟩, ⟨.l 34, .mv (.p 0), none⟩, ⟨.l 35, .len .sl (.l 34), none⟩, ⟨.l 36, .bin .lss (.l 33) (.l 35), none⟩]) (.cond (.l 36) (.skip) (.exit 4))) (.seq (.block 5 (.seq (.region [⟨.l 39, .mv (.p 0), none⟩, ⟨.l 40, .mv (.p 5), none⟩, ⟨.l 41, .iaddr none 5 (.l 39) (.l 40), none⟩, ⟨.l 42, .faddr 1 (.l 41), none⟩, ⟨.l 43, .load 1 false (.l 42), none⟩, ⟨.l 44, .bin .eql (.l 43) (.c (.int .i64 (0))), none⟩]) (.cond (.l 44) (.region [⟨.l 45, .mv (.p 2), none⟩, ⟨.l 46, .mv (.p 0), none⟩, ⟨.l 47, .mv (.p 5), none⟩, ⟨.l 48, .iaddr none 5 (.l 46) (.l 47), none⟩, ⟨.l 49, .load 5 true (.l 48), none⟩, ⟨.l 50, .bslice 74 1 5 [.str [], .int .i64 (0), .str [], .int .i64 (0), .str []] [(0, 5, (.l 49))], none⟩, ⟨.l 51, .append 74 5 64 (.l 45) (.l 50), none⟩, ⟨.p 2, .mv (.l 51), none⟩]) (.skip)))) (.region [⟨.l 37, .mv (.p 5), none⟩, ⟨.l 38, .bin .add (.l 37) (.c (.int .i64 (1))), none⟩, ⟨.p 5, .mv (.l 38), none⟩]))
def b80 : ICode := .seq (.region [⟨.p 1, .mv (.c (.nilsl)), none⟩]) (.seq (.region [⟨.p 2, .mv (.c (.nilsl)), none⟩]) (.seq (.seq (.region [⟨.p 3, .mv (.c (.int .i64 (1))), none⟩]) (.block 0 (.loop b80_1))) (.seq (.seq (.region [⟨.p 5, .mv (.c (.int .i64 (0))), none⟩]) (.block 4 (.loop b80_2))) (.seq (.region [⟨.l 52, .mv (.p 2), none⟩, ⟨.p 1, .mv (.l 52), none⟩]) (.ret)))))
theorem ft80 : FT 80 = some ⟨53, [0, 2, 3, 4, 5, 6], [.var (.p 1)], b80⟩ := by kernel_rfl
end Go.Ab.Ch6

/-
  Own work: plain facts on stable sorting by blocks that are merged in place.
-/
namespace Go.Ab.Sort
def Lt (key : Int → Int) (x y : Int) : Prop := key y < key x ∨ key x = key y ∧ x < y
section
variable {key : Int → Int}
theorem Lt.trans {x y z : Int} (h1 : Lt key x y) (h2 : Lt key y z) : Lt key x z := by unfold Lt at *; omega
theorem Lt.irr {x : Int} : ¬ Lt key x x := by unfold Lt; omega
theorem Lt.tot {x y : Int} (h : x < y) (hn : ¬ Lt key y x) : Lt key x y := by unfold Lt at *; omega
theorem Lt.iff {x y : Int} (h : x < y) : Lt key y x ↔ key x < key y := by unfold Lt; omega
def Sd (key : Int → Int) (l : List Int) : Prop := l.Pairwise (Lt key)
theorem Sd.nil : Sd key [] := List.Pairwise.nil
theorem Sd.one (x : Int) : Sd key [x] := List.pairwise_singleton _ _
theorem Sd.app {l m : List Int} (h1 : Sd key l) (h2 : Sd key m) (h : ∀ x ∈ l, ∀ y ∈ m, Lt key x y) : Sd key (l ++ m) :=
  List.pairwise_append.2 ⟨h1, h2, h⟩
theorem Sd.left {l m : List Int} (h : Sd key (l ++ m)) : Sd key l := (List.pairwise_append.1 h).1
theorem Sd.right {l m : List Int} (h : Sd key (l ++ m)) : Sd key m := (List.pairwise_append.1 h).2.1
theorem Sd.cross {l m : List Int} (h : Sd key (l ++ m)) : ∀ x ∈ l, ∀ y ∈ m, Lt key x y := (List.pairwise_append.1 h).2.2
theorem Sd.get {l : List Int} (h : Sd key l) {i j : Nat} {x y : Int} (hi : l[i]? = some x) (hj : l[j]? = some y) (hij : i < j) : Lt key x y := by
  obtain ⟨h1, rfl⟩ := List.getElem?_eq_some_iff.1 hi
  obtain ⟨h2, rfl⟩ := List.getElem?_eq_some_iff.1 hj
  exact List.pairwise_iff_getElem.1 h i j h1 h2 hij
theorem ins_stop {S1 S2 : List Int} {x : Int} (hs : Sd key (S1 ++ S2)) (h2 : ∀ y ∈ S2, Lt key x y) (h1 : ∀ y, S1.getLast? = some y → Lt key y x) : Sd key (S1 ++ x :: S2) := by
  have h1' : ∀ y ∈ S1, Lt key y x := by
    intro y hy
    obtain ⟨L, z, rfl⟩ : ∃ L z, S1 = L ++ [z] := by
      rcases List.eq_nil_or_concat S1 with rfl | ⟨L, z, rfl⟩
      · cases hy
      · exact ⟨L, z, by simp⟩
    have hz := h1 z (by simp)
    rcases List.mem_append.1 hy with h | h
    · exact (hs.left.cross y h z (by simp)).trans hz
    · simp only [List.mem_singleton] at h; subst h; exact hz
  refine hs.left.app (List.pairwise_cons.2 ⟨h2, hs.right⟩) fun y hy z hz => ?_
  rcases List.mem_cons.1 hz with rfl | h
  · exact h1' y hy
  · exact hs.cross y hy z h
theorem one_left {x : Int} {R : List Int} {i : Nat} (hs : Sd key R) (h1 : ∀ k y, k < i → R[k]? = some y → Lt key y x) (h2 : ∀ k y, i ≤ k → R[k]? = some y → Lt key x y) : Sd key (R.take i ++ x :: R.drop i) := by
  have hs' : Sd key (R.take i ++ R.drop i) := by rw [List.take_append_drop]; exact hs
  refine hs'.left.app (List.pairwise_cons.2 ⟨fun y hy => ?_, hs'.right⟩) fun y hy z hz => ?_
  · obtain ⟨k, hk⟩ := List.mem_iff_getElem?.1 hy
    rw [List.getElem?_drop] at hk
    exact h2 _ y (by omega) hk
  · have hyx : Lt key y x := by
      obtain ⟨k, hk⟩ := List.mem_iff_getElem?.1 hy
      rw [List.getElem?_take] at hk
      split at hk
      · exact h1 k y (by assumption) hk
      · cases hk
    rcases List.mem_cons.1 hz with rfl | h
    · exact hyx
    · exact hs'.cross y hy z h
theorem sym_cross {L1 L2 R1 R2 : List Int} (hL : Sd key (L1 ++ L2)) (hR : Sd key (R1 ++ R2)) (h1 : ∀ x y, L1.getLast? = some x → R2.head? = some y → Lt key x y) (h2 : ∀ x y, L2.head? = some x → R1.getLast? = some y → Lt key y x) :
    ∀ x ∈ L1 ++ R1, ∀ y ∈ L2 ++ R2, Lt key x y := by
  have le_last : ∀ {A B : List Int}, Sd key (A ++ B) → ∀ x ∈ A, ∃ z, A.getLast? = some z ∧ (x = z ∨ Lt key x z) := by
    intro A B h x hx
    rcases List.eq_nil_or_concat A with rfl | ⟨M, z, rfl⟩
    · cases hx
    · refine ⟨z, by simp, ?_⟩
      simp only [List.concat_eq_append] at hx h
      rcases List.mem_append.1 hx with h' | h'
      · exact .inr (h.left.cross x h' z (by simp))
      · simp only [List.mem_singleton] at h'; exact .inl h'
  have ge_head : ∀ {A B : List Int}, Sd key (A ++ B) → ∀ x ∈ B, ∃ z, B.head? = some z ∧ (z = x ∨ Lt key z x) := by
    intro A B h x hx
    cases B with
    | nil => cases hx
    | cons z M =>
      refine ⟨z, rfl, ?_⟩
      rcases List.mem_cons.1 hx with rfl | h'
      · exact .inl rfl
      · exact .inr ((List.pairwise_cons.1 h.right).1 x h')
  intro x hx y hy
  rcases List.mem_append.1 hx with hx | hx <;> rcases List.mem_append.1 hy with hy | hy
  · exact hL.cross x hx y hy
  · obtain ⟨a, ha, hxa⟩ := le_last hL x hx
    obtain ⟨b, hb, hby⟩ := ge_head hR y hy
    have := h1 a b ha hb
    rcases hxa with rfl | h <;> rcases hby with rfl | h'
    · exact this
    · exact this.trans h'
    · exact h.trans this
    · exact (h.trans this).trans h'
  · obtain ⟨a, ha, hxa⟩ := le_last hR x hx
    obtain ⟨b, hb, hby⟩ := ge_head hL y hy
    have := h2 b a hb ha
    rcases hxa with rfl | h <;> rcases hby with rfl | h'
    · exact this
    · exact this.trans h'
    · exact h.trans this
    · exact (h.trans this).trans h'
  · exact hR.cross x hx y hy
inductive Ch (key : Int → Int) (bs : Nat) : List Int → List Int → Prop
  | last {S S0 : List Int} : S.length ≤ bs → Sd key S → S.Perm S0 → Ch key bs S S0
  | more {S S0 l l0 : List Int} : S.length = bs → Sd key S → S.Perm S0 → Ch key bs l l0 → Ch key bs (S ++ l) (S0 ++ l0)
theorem Ch.perm {bs : Nat} {l l0 : List Int} (h : Ch key bs l l0) : l.Perm l0 := by
  induction h with
  | last _ _ h => exact h
  | more _ _ h _ ih => exact h.append ih
theorem Ch.done {bs : Nat} {l l0 : List Int} (h : Ch key bs l l0) (hl : l.length ≤ bs) : Sd key l := by
  cases h with
  | last _ h _ => exact h
  | @more S S0 m m0 h1 h2 _ _ =>
    have : m.length = 0 := by simp at hl; omega
    obtain rfl := List.length_eq_zero_iff.1 this
    simpa using h2
theorem Ch.full {bs : Nat} {l l0 : List Int} (h : Ch key bs l l0) (hl : bs ≤ l.length) : ∃ S S0 m m0, l = S ++ m ∧ l0 = S0 ++ m0 ∧ S.length = bs ∧ Sd key S ∧ S.Perm S0 ∧ Ch key bs m m0 := by
  cases h with
  | last h h2 h3 => exact ⟨l, l0, [], [], by simp, by simp, by omega, h2, h3, .last (by simp) Sd.nil (.refl _)⟩
  | more h1 h2 h3 h4 => exact ⟨_, _, _, _, rfl, rfl, h1, h2, h3, h4⟩
def rank (key : Int → Int) (l : List Int) (x : Int) : Nat := l.countP fun y => decide (key x < key y ∨ key y = key x ∧ y < x)
end
def numsTo (n : Nat) : List Int := (List.range n).map Int.ofNat
theorem numsTo_length {n : Nat} : (numsTo n).length = n := by simp [numsTo]
theorem numsTo_mem {n : Nat} {x : Int} : x ∈ numsTo n ↔ 0 ≤ x ∧ x < n := by
  unfold numsTo
  simp only [List.mem_map, List.mem_range]
  constructor
  · rintro ⟨a, h, rfl⟩; constructor <;> simp <;> omega
  · rintro ⟨h1, h2⟩; exact ⟨x.toNat, by omega, by simp; omega⟩
theorem numsTo_nodup {n : Nat} : (numsTo n).Nodup := by
  unfold numsTo
  rw [List.nodup_iff_pairwise_ne, List.pairwise_map]
  exact List.nodup_range.imp fun h e => h (by exact Int.ofNat.inj e)
theorem numsTo_lt {n : Nat} : (numsTo n).Pairwise (· < ·) := by
  unfold numsTo
  rw [List.pairwise_map]
  exact List.pairwise_lt_range.imp fun h => by simpa using h
def sum (l : List Int) : Int := l.foldl (· + ·) 0
def base (total : Int) (w : List Int) : List Int := w.map fun x => total * x / sum w
end Go.Ab.Sort

/-
  Own work: marks of a series in descending order, ranks by them, and the order of finalists, in plain words.
-/
namespace Go.Ab.Ch6
open Go.Ab.Sort
def insD (x : Int) : List Int → List Int
  | [] => [x]
  | y :: r => if y < x then x :: y :: r else y :: insD x r
def serF (out : List Int) : List Int → List Int
  | [] => out
  | x :: l => serF (if x < 0 then out else insD x out) l
def serL (l : List Int) : List Int := serF [] l
def Desc (l : List Int) : Prop := l.Pairwise (fun a b => b ≤ a)
theorem insD_mem {x y : Int} : ∀ {l : List Int}, y ∈ insD x l ↔ y = x ∨ y ∈ l
  | [] => by simp [insD]
  | z :: l => by
    rw [insD]
    split
    · simp
    · rw [List.mem_cons, insD_mem, List.mem_cons]
      constructor
      · rintro (h | h | h) <;> simp [h]
      · rintro (h | h | h) <;> simp [h]
theorem insD_desc {x : Int} : ∀ {l : List Int}, Desc l → Desc (insD x l)
  | [], _ => List.pairwise_singleton _ _
  | z :: l, h => by
    obtain ⟨h1, h2⟩ := List.pairwise_cons.1 h
    rw [insD]
    split
    · rename_i hz
      refine List.pairwise_cons.2 ⟨fun a ha => ?_, h⟩
      rcases List.mem_cons.1 ha with rfl | ha
      · omega
      · have := h1 a ha; omega
    · rename_i hz
      refine List.pairwise_cons.2 ⟨fun a ha => ?_, insD_desc h2⟩
      rcases insD_mem.1 ha with rfl | ha
      · omega
      · exact h1 a ha
theorem insD_split {x : Int} : ∀ {A B : List Int}, (∀ y ∈ A, x ≤ y) → (∀ y, B.head? = some y → y < x) → insD x (A ++ B) = A ++ x :: B
  | [], [], _, _ => rfl
  | [], y :: B, _, h => by
    have := h y rfl
    rw [List.nil_append, insD, if_pos this]; rfl
  | z :: A, B, h1, h2 => by
    have := h1 z (by simp)
    rw [List.cons_append, insD, if_neg (by omega), insD_split (fun y hy => h1 y (by simp [hy])) h2]; rfl
theorem insD_at {x : Int} {l : List Int} {k : Nat} (hd : Desc l) (hk : k ≤ l.length) (h1 : k = 0 ∨ x ≤ l[k - 1]!) (h2 : k < l.length → l[k]! < x) : insD x l = l.take k ++ x :: l.drop k := by
  have e := insD_split (x := x) (A := l.take k) (B := l.drop k) (fun y hy => ?_) (fun y hy => ?_)
  · rwa [List.take_append_drop] at e
  · rcases h1 with rfl | h1
    · simp at hy
    · have hk0 : 0 < k := by
        rcases Nat.eq_zero_or_pos k with rfl | h
        · simp at hy
        · exact h
      rw [getElem!_pos l (k - 1) (by omega)] at h1
      obtain ⟨i, hi, rfl⟩ := List.getElem_of_mem hy
      rw [List.length_take] at hi
      rw [List.getElem_take]
      by_cases hik : i = k - 1
      · subst hik; exact h1
      · have := List.pairwise_iff_getElem.1 hd i (k - 1) (by omega) (by omega) (by omega)
        omega
  · rw [List.head?_drop] at hy
    have hkl : k < l.length := by
      rcases Nat.lt_or_ge k l.length with h | h
      · exact h
      · rw [List.getElem?_eq_none h] at hy; cases hy
    have h2 := h2 hkl
    rw [getElem!_pos l k hkl] at h2
    rw [List.getElem?_eq_getElem hkl] at hy
    cases hy
    exact h2
theorem serF_desc : ∀ {l out : List Int}, Desc out → Desc (serF out l)
  | [], _, h => h
  | x :: l, out, h => by
    rw [serF]
    split
    · exact serF_desc h
    · exact serF_desc (insD_desc h)
theorem serF_filter : ∀ {l out : List Int}, serF out (l.filter fun x => decide (0 ≤ x)) = serF out l
  | [], _ => rfl
  | x :: l, out => by
    rw [List.filter_cons, serF]
    by_cases h : x < 0
    · rw [if_neg (by simp; omega), if_pos h]; exact serF_filter
    · rw [if_pos (by simp; omega), serF, if_neg h]; exact serF_filter
theorem insD_length {x : Int} : ∀ {l : List Int}, (insD x l).length = l.length + 1
  | [] => rfl
  | z :: l => by rw [insD]; split <;> simp [insD_length]
theorem serF_length : ∀ {l out : List Int}, (serF out l).length = out.length + (l.filter fun x => decide (0 ≤ x)).length
  | [], _ => by simp [serF]
  | x :: l, out => by
    rw [List.filter_cons, serF, serF_length]
    by_cases h : x < 0
    · rw [if_pos h, if_neg (by simp; omega)]
    · rw [if_neg h, if_pos (by simp; omega), insD_length, List.length_cons]; omega
theorem serL_length {l : List Int} : (serL l).length = (l.filter fun x => decide (0 ≤ x)).length := by
  rw [serL, serF_length]; simp
def lexGt : List Int → List Int → Bool
  | [], _ => false
  | _ :: _, [] => true
  | x :: a, y :: b => if y < x then true else if x < y then false else lexGt a b
def rankOf (ls : List (List Int)) (x : List Int) : Int := if serL x = [] then 0 else 1 + (ls.countP fun y => lexGt (serL y) (serL x) : Nat)
def ranksL (ls : List (List Int)) : List Int := ls.map (rankOf ls)
def idxs (own : List Int) (r : Int) : List Int := (numsTo own.length).filter fun i => decide (own.getD i.toNat 0 = r)
def finR (own : List Int) : Nat → List Int
  | 0 => []
  | r + 1 => idxs own (r + 1 : Nat) ++ finR own r
theorem sd_unique {key : Int → Int} : ∀ {a b : List Int}, Sd key a → Sd key b → a.Perm b → a = b
  | [], b, _, _, h => (List.nil_perm.1 h).symm
  | x :: a, [], _, _, h => by have := h.length_eq; simp at this
  | x :: a, y :: b, ha, hb, h => by
    obtain ⟨a1, a2⟩ := List.pairwise_cons.1 ha
    obtain ⟨b1, b2⟩ := List.pairwise_cons.1 hb
    have hx : x ∈ y :: b := h.subset (by simp)
    have hy : y ∈ x :: a := h.symm.subset (by simp)
    have e : x = y := by
      rcases List.mem_cons.1 hx with e | hx
      · exact e
      · rcases List.mem_cons.1 hy with e | hy
        · exact e.symm
        · exact absurd ((b1 x hx).trans (a1 y hy)) Lt.irr
    subst e
    rw [sd_unique a2 b2 (List.Perm.cons_inv h)]
end Go.Ab.Ch6

/-
  Own work: rows of a competition: their errors and the finalists, in plain words.
-/
namespace Go.Ab.Ch6
open Go.Ab.Sort
structure Row where
  who : Str
  tr : List Int
  ret : Bool
  deriving DecidableEq, Inhabited
def rowC (r : Row) : List AV := [.str r.who, .vs (ints r.tr) r.tr.length none, .bool r.ret]
def namesR (l : List Row) : List Str := l.map Row.who
def farT (l : List Int) : Bool := l.any fun n => decide (n < -2 ∨ 999999 < n)
def rowE (names : List Str) (i : Nat) (r : Row) : Int :=
  if nameE names i ≠ 0 then nameE names i else if 6 < r.tr.length then 5 else if farT r.tr = true then 3 else 0
def rowsF (names : List Str) : Nat → List Row → Int
  | _, [] => 0
  | i, r :: l => if rowE names i r ≠ 0 then rowE names i r else rowsF names (i + 1) l
def rowsE (l : List Row) : Int := if 32 < l.length then 5 else rowsF (namesR l) 0 l
theorem nameE_take {l : List Str} {i k : Nat} (h : i < k) (hk : k ≤ l.length) : nameE (l.take k) i = nameE l i := by
  have h1 : (l.take k)[i]! = l[i]! := by
    rw [getElem!_pos (l.take k) i (by rw [List.length_take]; omega), getElem!_pos l i (by omega), List.getElem_take]
  have h2 : (l.take k).take i = l.take i := by rw [List.take_take, Nat.min_eq_left (by omega)]
  unfold nameE
  rw [h1, h2]
theorem rowsF_all {names : List Str} : ∀ {l : List Row} {i : Nat}, rowsF names i l = 0 → ∀ r ∈ l, r.tr.length ≤ 6 ∧ farT r.tr = false
  | [], _, _, r, hr => by cases hr
  | x :: l, i, h, r, hr => by
    rw [rowsF] at h
    by_cases hx : rowE names i x ≠ 0
    · rw [if_pos hx] at h; exact absurd h hx
    · rw [if_neg hx] at h
      rcases List.mem_cons.1 hr with rfl | hr
      · have hx := Decidable.not_not.1 hx
        unfold rowE at hx
        split at hx
        · rename_i h1; exact absurd hx h1
        · split at hx
          · cases hx
          · split at hx
            · cases hx
            · rename_i h1 h2 h3
              exact ⟨by omega, by simpa using h3⟩
      · exact rowsF_all h r hr
theorem rowsE_all {l : List Row} (h : rowsE l = 0) : l.length ≤ 32 ∧ ∀ r ∈ l, r.tr.length ≤ 6 ∧ farT r.tr = false := by
  unfold rowsE at h
  split at h
  · cases h
  · rename_i hl
    exact ⟨by omega, rowsF_all h⟩
def ownE (names : List Str) (l : List Row) (more : Int) : Int :=
  if l.length ≠ names.length then 2 else if namesR l ≠ names then 10 else if more = 0 then 7 else 0
def finE (names : List Str) (t f m : Int) (l : List Row) : Int :=
  if contestE names t f m ≠ 0 then contestE names t f m else if rowsE l ≠ 0 then rowsE l else ownE names l m
def cutT (t : Int) (l : List Row) : List (List Int) := l.map fun r => r.tr.take t.toNat
def finI (t : Int) (F : Nat) (l : List Row) : List Int := finR (ranksL (cutT t l)) F
def finN (t : Int) (F : Nat) (l : List Row) : List Str := (finI t F l).map fun i => (l.getD i.toNat default).who
def shortR (l : List Row) : Bool := decide (l.length ≤ 35) && l.all fun r => decide (r.who.length ≤ 40) && decide (r.tr.length ≤ 10)
end Go.Ab.Ch6

/-
  Own work: chapter 6: rows: short ones, their names and errors, comparisons of series.
-/
namespace Go.Ab.Ch6
variable {M : Mach} {cap c1 c2 : Option Nat}
abbrev rowsC (l : List Row) : List AV := arr rowC l
def shortR1 (r : Row) : Bool := decide (r.who.length ≤ 40) && decide (r.tr.length ≤ 10)
theorem all_drop {α : Type} [Inhabited α] {p : α → Bool} {l : List α} {i : Nat} (h : i < l.length) : (l.drop i).all p = (p l[i]! && (l.drop (i + 1)).all p) := by
  rw [List.drop_eq_getElem_cons h, ← getElem!_pos l i h, List.all_cons]
theorem w22 (hft : M.FT = FT) (l : List Row) : Run M 22 [.vs (rowsC l) l.length cap] [] ⟨.bool (shortR l), [], []⟩ := by
  refine run_of_W (by rw [hft]; exact ft22) (by simp) ?_
  unfold b22
  simp only [List.map_cons, List.map_nil, List.getElem?_cons_zero, List.getElem?_cons_succ, List.getElem?_nil, Option.getD_some, Option.getD_none]
  by_cases h : 35 < l.length
  · repeat' first | apply W.seq | apply SQn | apply W.region | apply WO.nil | apply W.ret | apply SQr | (apply W.condT; exact rfl) | (apply WO.gtr; exact rfl; exact rfl; all_goals first | (intro _; exfalso; omega) | intro _) | (apply WO.pl; exact rfl; exact rfl) | (apply WO.pp; exact rfl; exact rfl)
    exact ⟨.inr rfl, rfl, _, rfl, by rw [shortR, decide_eq_false (by omega)]; rfl, rfl⟩
  · repeat' first | apply W.seq | apply SQn | apply W.region | apply WO.nil | apply W.block | apply W.skip | (apply W.condF; exact rfl) | (apply WO.gtr; exact rfl; exact rfl; all_goals first | (intro _; exfalso; omega) | intro _) | (apply WO.pl; exact rfl; exact rfl) | (apply WO.pp; exact rfl; exact rfl)
    refine W.loopI l.length (fun i s => shortR l = (l.drop i).all shortR1 ∧ ∃ a2 lo K wr, s = ⟨⟨[.vs (rowsC l) l.length cap, .bool false, a2, .vs (rowsC l) l.length cap, .int .i64 l.length, .int .i64 i], lo, K, []⟩, wr⟩) (fun i s hi ⟨he, a2, lo, K, wr, hs⟩ => ?_) (fun s ⟨he, a2, lo, K, wr, hs⟩ => ?_) (Nat.zero_le _) ⟨by rw [shortR, decide_eq_true (by omega)]; rfl, _, _, _, _, rfl⟩
    · subst hs
      have e := all_drop (p := shortR1) hi
      unfold b22_0
      by_cases h1 : (l[i]!).who.length ≤ 40
      · have h1' : (l[((i : Int)).toNat]!).who.length ≤ 40 := h1
        by_cases h2 : (l[i]!).tr.length ≤ 10
        · have h2' : (l[((i : Int)).toNat]!).tr.length ≤ 10 := h2
          repeat' first | apply W.seq | apply SQn | apply W.region | apply WO.nil | apply W.block | apply W.skip | apply BQn | (apply W.condT; exact rfl) | (apply W.condF; exact rfl) | (apply WO.gF; exact rfl) | (apply WO.lss; exact rfl; exact rfl; all_goals first | (intro _; exfalso; omega) | intro _) | (apply WO.gtr; exact rfl; exact rfl; all_goals first | (intro _; exfalso; omega) | intro _) | (apply WO.pkF; exact rfl; exact rfl) | (apply WO.add; exact rfl; exact rfl; omega) | (apply WO.stK; exact rfl; exact rfl; exact ⟨rfl, by first | exact Nat.le_refl _ | decide | (simp [overwrite]), rfl⟩; exact rfl) | (apply WO.ldK; exact rfl; (first | exact at_new | assumption | exact at_old at_new | exact at_old (at_old at_new) | exact at_old (at_old (at_old at_new)) | exact at_put (by simp) | ((repeat apply at_old); assumption)); exact rfl) | (apply WO.iav; exact rfl; exact rfl; omega) | (apply WO.lda; exact rfl; exact fun _ => rfl; (first | omega | (simp only [List.length_set]; omega) | (simp; omega)); decide; exact rfl; case ia => infer_instance) | (apply WO.hpv; exact rfl; exact rfl; exact rfl) | (apply WO.pl; exact rfl; exact rfl) | (apply WO.pp; exact rfl; exact rfl)
          exact LIn ⟨by rw [he, e, shortR1, decide_eq_true h1, decide_eq_true h2]; rfl, _, _, _, _, rfl⟩
        · have h2' : ¬ (l[((i : Int)).toNat]!).tr.length ≤ 10 := h2
          repeat' first | apply W.seq | apply SQn | apply W.region | apply WO.nil | apply W.block | apply W.ret | apply W.skip | apply SQr | apply BQr | apply LIr | (apply W.condT; exact rfl) | (apply WO.gF; exact rfl) | (apply WO.lss; exact rfl; exact rfl; all_goals first | (intro _; exfalso; omega) | intro _) | (apply WO.gtr; exact rfl; exact rfl; all_goals first | (intro _; exfalso; omega) | intro _) | (apply WO.pkF; exact rfl; exact rfl) | (apply WO.stK; exact rfl; exact rfl; exact ⟨rfl, by first | exact Nat.le_refl _ | decide | (simp [overwrite]), rfl⟩; exact rfl) | (apply WO.ldK; exact rfl; (first | exact at_new | assumption | exact at_old at_new | exact at_old (at_old at_new) | exact at_old (at_old (at_old at_new)) | exact at_put (by simp) | ((repeat apply at_old); assumption)); exact rfl) | (apply WO.iav; exact rfl; exact rfl; omega) | (apply WO.lda; exact rfl; exact fun _ => rfl; (first | omega | (simp only [List.length_set]; omega) | (simp; omega)); decide; exact rfl; case ia => infer_instance) | (apply WO.hpv; exact rfl; exact rfl; exact rfl) | (apply WO.pl; exact rfl; exact rfl) | (apply WO.pp; exact rfl; exact rfl)
          exact ⟨.inr rfl, rfl, _, rfl, by rw [he, e, shortR1, decide_eq_true h1, decide_eq_false h2]; rfl, rfl⟩
      · have h1' : ¬ (l[((i : Int)).toNat]!).who.length ≤ 40 := h1
        repeat' first | apply W.seq | apply SQn | apply W.region | apply WO.nil | apply W.block | apply W.ret | apply W.skip | apply SQr | apply BQr | apply LIr | (apply W.condT; exact rfl) | (apply WO.sF; exact rfl) | (apply WO.lss; exact rfl; exact rfl; all_goals first | (intro _; exfalso; omega) | intro _) | (apply WO.gtr; exact rfl; exact rfl; all_goals first | (intro _; exfalso; omega) | intro _) | (apply WO.pkT; exact rfl; exact rfl) | (apply WO.stK; exact rfl; exact rfl; exact ⟨rfl, by first | exact Nat.le_refl _ | decide | (simp [overwrite]), rfl⟩; exact rfl) | (apply WO.ldK; exact rfl; (first | exact at_new | assumption | exact at_old at_new | exact at_old (at_old at_new) | exact at_old (at_old (at_old at_new)) | exact at_put (by simp) | ((repeat apply at_old); assumption)); exact rfl) | (apply WO.iav; exact rfl; exact rfl; omega) | (apply WO.lda; exact rfl; exact fun _ => rfl; (first | omega | (simp only [List.length_set]; omega) | (simp; omega)); decide; exact rfl; case ia => infer_instance) | (apply WO.hpv; exact rfl; exact rfl; exact rfl) | (apply WO.pl; exact rfl; exact rfl) | (apply WO.pp; exact rfl; exact rfl)
        exact ⟨.inr rfl, rfl, _, rfl, by rw [he, e, shortR1, decide_eq_false h1]; rfl, rfl⟩
    · subst hs
      unfold b22_0
      repeat' first | apply W.seq | apply SQn | apply W.region | apply WO.nil | apply W.ret | apply W.exit | apply SQe | apply BQe | apply LIe | (apply W.condF; exact rfl) | (apply WO.lss; exact rfl; exact rfl; all_goals first | (intro _; exfalso; omega) | intro _) | (apply WO.pp; exact rfl; exact rfl)
      exact ⟨.inr rfl, rfl, _, rfl, by rw [he, List.drop_length]; rfl, rfl⟩
theorem take_snoc' {α : Type} [Inhabited α] {l : List α} {i : Nat} (h : i < l.length) : l.take (i + 1) = l.take i ++ [l[i]!] := by
  rw [List.take_succ_eq_append_getElem h, getElem!_pos l i h]
abbrev stC (s : Str) : List AV := [.str s]
abbrev inC (x : Int) : List AV := [.int .i64 x]
theorem w72 (hft : M.FT = FT) (l : List Row) (hl : l.length < 1000000) : ∃ v hh, OutL stC 1 9 hh v (namesR l) [] ∧ Run M 72 [.vs (rowsC l) l.length cap] [] ⟨v, hh, []⟩ := by
  refine run_ofE (P := fun v hh => OutL stC 1 9 hh v (namesR l) []) (by rw [hft]; exact ft72) (by simp) ?_
  unfold b72
  simp only [List.map_cons, List.map_nil, List.getElem?_cons_zero, List.getElem?_cons_succ, List.getElem?_nil, Option.getD_some, Option.getD_none]
  repeat' first | apply W.seq | apply SQn | apply W.region | apply WO.nil | apply W.block | (apply WO.pp; exact rfl; exact rfl)
  refine W.loopI l.length (fun i s => ∃ o lo K wr, s = ⟨⟨[.vs (rowsC l) l.length cap, .nilsl, o, .int .i64 i], lo, K, []⟩, wr⟩ ∧ OutL stC 1 9 K o (namesR (l.take i)) []) (fun i s hi ⟨o, lo, K, wr, hs, ho⟩ => ?_) (fun s ⟨o, lo, K, wr, hs, ho⟩ => ?_) (Nat.zero_le _) ⟨_, _, _, _, rfl, .inl ⟨rfl, rfl⟩⟩
  · subst hs
    have hroom : ((namesR (l.take i)).length + 1) * 16 ≤ roomLimit := by simp [namesR]; unfold roomLimit; omega
    have e : namesR (l.take (i + 1)) = namesR (l.take i) ++ [(l[((i : Int)).toNat]!).who] := by
      rw [Int.toNat_natCast, take_snoc' hi]; simp [namesR]
    unfold b72_0
    repeat' first | apply W.seq | apply SQn | apply W.region | apply WO.nil | apply W.block | apply W.skip | apply BQn | (apply W.condT; exact rfl) | (apply WO.lss; exact rfl; exact rfl; all_goals first | (intro _; exfalso; omega) | intro _) | (apply WO.add; exact rfl; exact rfl; omega) | (refine OutL.push (f := stC) (m := (l[((i : Int)).toNat]!).who) (fun _ => rfl) (fun _ => rfl) (by decide) ho (fun _ h => nomatch h) rfl rfl hroom (fun H w' o' ho' _ _ => ?_)) | (apply WO.iav; exact rfl; exact rfl; omega) | (apply WO.lda; exact rfl; exact fun _ => rfl; (first | omega | (simp only [List.length_set]; omega) | (simp; omega)); decide; exact rfl; case ia => infer_instance) | (apply WO.hlv; exact rfl; exact rfl; exact rfl) | (apply WO.pl; exact rfl; exact rfl) | (apply WO.pp; exact rfl; exact rfl)
    exact LIn ⟨_, _, _, _, rfl, e ▸ ho'⟩
  · subst hs
    rw [List.take_length] at ho
    unfold b72_0
    repeat' first | apply W.seq | apply SQn | apply W.region | apply WO.nil | apply W.ret | apply W.exit | apply SQe | apply BQe | apply LIe | (apply W.condF; exact rfl) | (apply WO.lss; exact rfl; exact rfl; all_goals first | (intro _; exfalso; omega) | intro _) | (apply WO.pl; exact rfl; exact rfl) | (apply WO.pp; exact rfl; exact rfl)
    exact ⟨.inr rfl, rfl, _, rfl, ho.fin⟩
theorem far_drop {l : List Int} {i : Nat} (h : i < l.length) : farT (l.drop i) = (decide (l[i]! < -2 ∨ 999999 < l[i]!) || farT (l.drop (i + 1))) := by
  rw [farT, List.drop_eq_getElem_cons h, ← getElem!_pos l i h, List.any_cons]; rfl
theorem rowsF_drop {names : List Str} {l : List Row} {i : Nat} (h : i < l.length) : rowsF names i (l.drop i) = if rowE names i l[i]! ≠ 0 then rowE names i l[i]! else rowsF names (i + 1) (l.drop (i + 1)) := by
  rw [List.drop_eq_getElem_cons h, rowsF, getElem!_pos l i h]
end Go.Ab.Ch6

/-
  Own work: chapter 6: the errors of rows, by the program and by the reference.
-/
namespace Go.Ab.Ch6
variable {M : Mach} {cap c1 c2 : Option Nat}
theorem len_names (l : List Row) : (namesR l).length = l.length := by simp [namesR]
theorem rowE_known {names : List Str} {i : Nat} {r : Row} : rowE names i r = if nameE names i ≠ 0 then nameE names i else if 6 < r.tr.length then 5 else if farT r.tr = true then 3 else 0 := rfl
theorem loop26_0 (l : List Row) (v2 : AV) (i : Nat) (hi : i < l.length) (h6 : (l[i]!).tr.length < 1000000) (E : Int) (hE : E = if farT (l[i]!).tr = true then 3 else 0) {Q : Ex → StW → Prop} (lo : List (Nat × AV)) (K : Heap) (wr : List Nat)
    (hQ : ∀ a5 lo wr, Q (.exit 2) ⟨⟨[.vs (rowsC l) l.length cap, .int .i64 0, v2, .int .i64 i, .int .i64 E, a5], lo, K, []⟩, wr⟩) :
    W M (.loop b26_0) ⟨⟨[.vs (rowsC l) l.length cap, .int .i64 0, v2, .int .i64 i, .int .i64 0, .int .i64 0], lo, K, []⟩, wr⟩ Q := by
  have hi' : ((i : Int)).toNat < l.length := by rw [Int.toNat_natCast]; exact hi
  refine W.loopI (l[i]!).tr.length (fun k s => ∃ lo wr, (s = ⟨⟨[.vs (rowsC l) l.length cap, .int .i64 0, v2, .int .i64 i, .int .i64 0, .int .i64 k], lo, K, []⟩, wr⟩ ∧ farT (l[i]!).tr = farT ((l[i]!).tr.drop k)) ∨ (s = ⟨⟨[.vs (rowsC l) l.length cap, .int .i64 0, v2, .int .i64 i, .int .i64 3, .int .i64 k], lo, K, []⟩, wr⟩ ∧ farT (l[i]!).tr = true)) (fun k s hk ⟨lo, wr, h⟩ => ?_) (fun s ⟨lo, wr, h⟩ => ?_) (Nat.zero_le _) ⟨_, _, .inl ⟨rfl, rfl⟩⟩
  · have hk' : (k : Int) < ((l[((i : Int)).toNat]!).tr.length : Int) := by rw [Int.toNat_natCast]; omega
    rcases h with ⟨hs, he⟩ | ⟨hs, he⟩
    · subst hs
      have e := far_drop hk
      unfold b26_0
      have hG : ∀ x : Int, (if (x < -2 ∨ 999999 < x) then true else false) = decide (x < -2 ∨ 999999 < x) := fun x => by by_cases h : x < -2 ∨ 999999 < x <;> simp [h]
      repeat' first | apply W.seq | apply SQn | apply W.region | apply WO.nil | apply W.block | apply W.skip | apply BQn | (apply W.condT; exact rfl) | (apply W.condF; exact rfl) | (apply WO.gT; exact rfl) | (apply WO.gF; exact rfl) | (apply WO.sF; exact rfl) | (apply WO.lss; exact rfl; exact rfl; all_goals first | (intro _; exfalso; omega) | intro _) | (apply WO.gtr; exact rfl; exact rfl; all_goals first | (intro _; exfalso; omega) | intro _) | (apply WO.eql; exact rfl; exact rfl; all_goals first | (intro _; exfalso; omega) | intro _) | (apply WO.pkT; exact rfl; exact rfl) | (apply WO.pkF; exact rfl; exact rfl) | (apply WO.add; exact rfl; exact rfl; omega) | (apply WO.iav; exact rfl; exact rfl; omega) | (apply WO.lda; exact rfl; exact fun _ => rfl; (first | omega | (simp only [List.length_set]; omega) | (simp; omega)); decide; exact rfl; case ia => infer_instance) | (apply WO.ldf; exact rfl; exact fun _ => rfl; (first | omega | (simp only [List.length_set]; omega) | (simp; omega)); decide; exact rfl; case ia => infer_instance) | (apply WO.pl; exact rfl; exact rfl) | (apply WO.pp; exact rfl; exact rfl)
      · rename_i h1
        have h1' : (l[i]!).tr[k]! < -2 := h1
        exact LIn ⟨_, _, .inr ⟨rfl, by rw [he, e, decide_eq_true (.inl h1')]; rfl⟩⟩
      · rename_i h1 h2
        have h2' : 999999 < (l[i]!).tr[k]! := h2
        exact LIn ⟨_, _, .inr ⟨rfl, by rw [he, e, decide_eq_true (.inr h2')]; rfl⟩⟩
      · rename_i h1 h2
        have h1' : -2 ≤ (l[i]!).tr[k]! := h1
        have h2' : (l[i]!).tr[k]! ≤ 999999 := h2
        exact LIn ⟨_, _, .inl ⟨rfl, by rw [he, e, decide_eq_false (by omega)]; rfl⟩⟩
    · subst hs
      unfold b26_0
      repeat' first | apply W.seq | apply SQn | apply W.region | apply WO.nil | apply W.exit | apply SQe | apply LIe | (apply W.condF; exact rfl) | (apply WO.gT; exact rfl) | (apply WO.lss; exact rfl; exact rfl; all_goals first | (intro _; exfalso; omega) | intro _) | (apply WO.eql; exact rfl; exact rfl; all_goals first | (intro _; exfalso; omega) | intro _) | (apply WO.pkT; exact rfl; exact rfl) | (apply WO.iav; exact rfl; exact rfl; omega) | (apply WO.ldf; exact rfl; exact fun _ => rfl; (first | omega | (simp only [List.length_set]; omega) | (simp; omega)); decide; exact rfl; case ia => infer_instance) | (apply WO.pl; exact rfl; exact rfl)
      rw [he, if_pos rfl] at hE
      subst hE
      exact hQ _ _ _
  · have hk' : ((l[i]!).tr.length : Int) = ((l[((i : Int)).toNat]!).tr.length : Int) := by rw [Int.toNat_natCast]
    rcases h with ⟨hs, he⟩ | ⟨hs, he⟩
    · subst hs
      rw [List.drop_length] at he
      rw [he] at hE
      obtain rfl : E = 0 := hE
      unfold b26_0
      repeat' first | apply W.seq | apply SQn | apply W.region | apply WO.nil | apply W.exit | apply SQe | apply LIe | (apply W.condF; exact rfl) | (apply WO.sT; exact rfl) | (apply WO.lss; exact rfl; exact rfl; all_goals first | (intro _; exfalso; omega) | intro _) | (apply WO.pkF; exact rfl; exact rfl) | (apply WO.iav; exact rfl; exact rfl; omega) | (apply WO.ldf; exact rfl; exact fun _ => rfl; (first | omega | (simp only [List.length_set]; omega) | (simp; omega)); decide; exact rfl; case ia => infer_instance) | (apply WO.pl; exact rfl; exact rfl)
      exact hQ _ _ _
    · subst hs
      rw [he, if_pos rfl] at hE
      subst hE
      unfold b26_0
      repeat' first | apply W.seq | apply SQn | apply W.region | apply WO.nil | apply W.exit | apply SQe | apply LIe | (apply W.condF; exact rfl) | (apply WO.sT; exact rfl) | (apply WO.lss; exact rfl; exact rfl; all_goals first | (intro _; exfalso; omega) | intro _) | (apply WO.pkF; exact rfl; exact rfl) | (apply WO.iav; exact rfl; exact rfl; omega) | (apply WO.ldf; exact rfl; exact fun _ => rfl; (first | omega | (simp only [List.length_set]; omega) | (simp; omega)); decide; exact rfl; case ia => infer_instance) | (apply WO.pl; exact rfl; exact rfl)
      exact hQ _ _ _
set_option maxHeartbeats 1000000 in
theorem w26 (hft : M.FT = FT) (c72 : ∀ (l : List Row) cap h, l.length < 1000000 → M.ext 72 [.vs (rowsC l) l.length cap] h = some ⟨.vs (strs (namesR l)) (namesR l).length none, h, []⟩) (c73 : ∀ (l : List Str) cap (i : Nat) h, l.length < 1000000 → (∀ s ∈ l, s.length < 1000000) → i < l.length → M.ext 73 [.vs (strs l) l.length cap, .int .i64 i] h = some ⟨.int .i64 (nameE l i), h, []⟩)
    (l : List Row) (hL : ∀ r ∈ l, r.who.length < 1000000 ∧ r.tr.length < 1000000) : Run M 26 [.vs (rowsC l) l.length cap] [] ⟨.int .i64 (rowsE l), [], []⟩ := by
  refine run_of_W (by rw [hft]; exact ft26) (by simp) ?_
  unfold b26
  simp only [List.map_cons, List.map_nil, List.getElem?_cons_zero, List.getElem?_cons_succ, List.getElem?_nil, Option.getD_some, Option.getD_none]
  by_cases h : 32 < l.length
  · repeat' first | apply W.seq | apply SQn | apply W.region | apply WO.nil | apply W.ret | apply SQr | (apply W.condT; exact rfl) | (apply WO.gtr; exact rfl; exact rfl; all_goals first | (intro _; exfalso; omega) | intro _) | (apply WO.pl; exact rfl; exact rfl) | (apply WO.pp; exact rfl; exact rfl)
    exact ⟨.inr rfl, rfl, _, rfl, by rw [rowsE, if_pos h]; rfl, rfl⟩
  · have q72 := fun h => c72 l cap h (by omega)
    repeat' first | apply W.seq | apply SQn | apply W.region | apply WO.nil | apply W.block | apply W.skip | (apply W.condF; exact rfl) | (apply WO.gtr; exact rfl; exact rfl; all_goals first | (intro _; exfalso; omega) | intro _) | (apply WO.cll; exact rfl; exact rfl; first | exact q72 _) | (apply WO.pl; exact rfl; exact rfl) | (apply WO.pp; exact rfl; exact rfl)
    refine W.loopI l.length (fun i s => rowsE l = rowsF (namesR l) i (l.drop i) ∧ ∃ a4 a5 lo K wr, s = ⟨⟨[.vs (rowsC l) l.length cap, .int .i64 0, .vs (strs (namesR l)) (namesR l).length none, .int .i64 i, a4, a5], lo, K, []⟩, wr⟩) (fun i s hi ⟨he, a4, a5, lo, K, wr, hs⟩ => ?_) (fun s ⟨he, a4, a5, lo, K, wr, hs⟩ => ?_) (Nat.zero_le _) ⟨by rw [rowsE, if_neg h, List.drop_zero], _, _, _, _, _, rfl⟩
    · subst hs
      have e := rowsF_drop (names := namesR l) hi
      have q73 := fun h => c73 (namesR l) none i h (by rw [len_names]; omega) (fun s hs => by
        simp only [namesR, List.mem_map] at hs
        obtain ⟨r, hr, rfl⟩ := hs
        exact (hL r hr).1) (by rw [len_names]; exact hi)
      have hm : l[i]! ∈ l := by rw [getElem!_pos l i hi]; exact List.getElem_mem hi
      unfold b26_1
      by_cases h1 : nameE (namesR l) i = 0
      · rw [h1] at q73
        by_cases h2 : 6 < (l[i]!).tr.length
        · have h2' : 6 < (l[((i : Int)).toNat]!).tr.length := h2
          have hr : rowE (namesR l) i l[i]! = 5 := by rw [rowE_known, if_neg (by simp [h1]), if_pos h2]
          repeat' first | apply W.seq | apply SQn | apply W.region | apply WO.nil | apply W.block | apply W.skip | (apply W.condT; exact rfl) | (apply WO.gT; exact rfl) | (apply WO.lss; exact rfl; exact rfl; all_goals first | (intro _; exfalso; omega) | intro _) | (apply WO.gtr; exact rfl; exact rfl; all_goals first | (intro _; exfalso; omega) | intro _) | (apply WO.eql; exact rfl; exact rfl; all_goals first | (intro _; exfalso; omega) | intro _) | (apply WO.pkT; exact rfl; exact rfl) | (apply WO.cll; exact rfl; exact rfl; first | exact q73 _) | (apply WO.iav; exact rfl; exact rfl; omega) | (apply WO.ldf; exact rfl; exact fun _ => rfl; (first | omega | (simp only [List.length_set]; omega) | (simp; omega)); decide; exact rfl; case ia => infer_instance) | (apply WO.pl; exact rfl; exact rfl) | (apply WO.pp; exact rfl; exact rfl)
          refine W.loop ?_
          unfold b26_0
          repeat' first | apply W.seq | apply SQn | apply W.region | apply WO.nil | apply W.ret | apply W.exit | apply SQr | apply SQe | apply BQr | apply BQe | apply LQe | apply LIr | (apply W.condT; exact rfl) | (apply W.condF; exact rfl) | (apply WO.gT; exact rfl) | (apply WO.lss; exact rfl; exact rfl; all_goals first | (intro _; exfalso; omega) | intro _) | (apply WO.eql; exact rfl; exact rfl; all_goals first | (intro _; exfalso; omega) | intro _) | (apply WO.neq; exact rfl; exact rfl; all_goals first | (intro _; exfalso; omega) | intro _) | (apply WO.pkT; exact rfl; exact rfl) | (apply WO.iav; exact rfl; exact rfl; omega) | (apply WO.ldf; exact rfl; exact fun _ => rfl; (first | omega | (simp only [List.length_set]; omega) | (simp; omega)); decide; exact rfl; case ia => infer_instance) | (apply WO.pl; exact rfl; exact rfl) | (apply WO.pp; exact rfl; exact rfl)
          exact ⟨.inr rfl, rfl, _, rfl, by rw [he, e, hr]; rfl, rfl⟩
        · have h2' : ¬ 6 < (l[((i : Int)).toNat]!).tr.length := h2
          have hr : rowE (namesR l) i l[i]! = if farT (l[i]!).tr = true then 3 else 0 := by rw [rowE_known, if_neg (by simp [h1]), if_neg h2]
          repeat' first | apply W.seq | apply SQn | apply W.region | apply WO.nil | apply W.block | apply W.skip | (apply W.condT; exact rfl) | (apply W.condF; exact rfl) | (apply WO.gT; exact rfl) | (apply WO.lss; exact rfl; exact rfl; all_goals first | (intro _; exfalso; omega) | intro _) | (apply WO.gtr; exact rfl; exact rfl; all_goals first | (intro _; exfalso; omega) | intro _) | (apply WO.eql; exact rfl; exact rfl; all_goals first | (intro _; exfalso; omega) | intro _) | (apply WO.pkT; exact rfl; exact rfl) | (apply WO.cll; exact rfl; exact rfl; first | exact q73 _) | (apply WO.iav; exact rfl; exact rfl; omega) | (apply WO.ldf; exact rfl; exact fun _ => rfl; (first | omega | (simp only [List.length_set]; omega) | (simp; omega)); decide; exact rfl; case ia => infer_instance) | (apply WO.pl; exact rfl; exact rfl) | (apply WO.pp; exact rfl; exact rfl)
          cases hf : farT (l[i]!).tr
          · rw [hf] at hr
            refine loop26_0 l _ i hi (hL _ hm).2 0 (by rw [hf]; rfl) _ _ _ (fun a5 lo wr => ?_)
            repeat' first | apply W.seq | apply SQn | apply W.region | apply WO.nil | apply W.skip | apply BQn | apply BQe | (apply W.condF; exact rfl) | (apply WO.neq; exact rfl; exact rfl; all_goals first | (intro _; exfalso; omega) | intro _) | (apply WO.add; exact rfl; exact rfl; omega) | (apply WO.pl; exact rfl; exact rfl) | (apply WO.pp; exact rfl; exact rfl)
            exact LIn ⟨by rw [he, e, hr]; rfl, _, _, _, _, _, rfl⟩
          · rw [hf] at hr
            refine loop26_0 l _ i hi (hL _ hm).2 3 (by rw [hf]; rfl) _ _ _ (fun a5 lo wr => ?_)
            repeat' first | apply W.seq | apply SQn | apply W.region | apply WO.nil | apply W.ret | apply SQr | apply BQr | apply BQe | apply LIr | (apply W.condT; exact rfl) | (apply WO.neq; exact rfl; exact rfl; all_goals first | (intro _; exfalso; omega) | intro _) | (apply WO.pl; exact rfl; exact rfl) | (apply WO.pp; exact rfl; exact rfl)
            exact ⟨.inr rfl, rfl, _, rfl, by rw [he, e, hr]; rfl, rfl⟩
      · have hr : rowE (namesR l) i l[i]! = nameE (namesR l) i := by rw [rowE_known, if_pos h1]
        generalize nameE (namesR l) i = E at *
        repeat' first | apply W.seq | apply SQn | apply W.region | apply WO.nil | apply W.block | apply W.skip | (apply W.condT; exact rfl) | (apply W.condF; exact rfl) | (apply WO.sT; exact rfl) | (apply WO.lss; exact rfl; exact rfl; all_goals first | (intro _; exfalso; omega) | intro _) | (apply WO.eql; exact rfl; exact rfl; all_goals first | (intro _; exfalso; omega) | intro _) | (apply WO.pkF; exact rfl; exact rfl) | (apply WO.cll; exact rfl; exact rfl; first | exact q73 _) | (apply WO.pl; exact rfl; exact rfl) | (apply WO.pp; exact rfl; exact rfl)
        refine W.loop ?_
        unfold b26_0
        have hi' : ((i : Int)).toNat < l.length := by rw [Int.toNat_natCast]; exact hi
        repeat' first | apply W.seq | apply SQn | apply W.region | apply WO.nil | apply W.ret | apply W.exit | apply SQr | apply SQe | apply BQr | apply BQe | apply LQe | apply LIr | (apply W.condT; exact rfl) | (apply W.condF; exact rfl) | (apply WO.gT; exact rfl) | (apply WO.sT; exact rfl) | (apply WO.lss; exact rfl; exact rfl; all_goals first | (intro _; exfalso; omega) | intro _) | (apply WO.eql; exact rfl; exact rfl; all_goals first | (intro _; exfalso; omega) | intro _) | (apply WO.neq; exact rfl; exact rfl; all_goals first | (intro _; exfalso; omega) | intro _) | (apply WO.pkT; exact rfl; exact rfl) | (apply WO.pkF; exact rfl; exact rfl) | (apply WO.iav; exact rfl; exact rfl; omega) | (apply WO.ldf; exact rfl; exact fun _ => rfl; (first | omega | (simp only [List.length_set]; omega) | (simp; omega)); decide; exact rfl; case ia => infer_instance) | (apply WO.pl; exact rfl; exact rfl) | (apply WO.pp; exact rfl; exact rfl)
        all_goals exact ⟨.inr rfl, rfl, _, rfl, by rw [he, e, hr, if_pos h1]; rfl, rfl⟩
    · subst hs
      unfold b26_1
      repeat' first | apply W.seq | apply SQn | apply W.region | apply WO.nil | apply W.ret | apply W.exit | apply SQe | apply BQe | apply LIe | (apply W.condF; exact rfl) | (apply WO.lss; exact rfl; exact rfl; all_goals first | (intro _; exfalso; omega) | intro _) | (apply WO.pl; exact rfl; exact rfl) | (apply WO.pp; exact rfl; exact rfl)
      exact ⟨.inr rfl, rfl, _, rfl, by rw [he, List.drop_length]; rfl, rfl⟩
end Go.Ab.Ch6
